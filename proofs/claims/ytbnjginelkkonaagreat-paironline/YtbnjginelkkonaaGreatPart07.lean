/- Factors have small coefficients, for they have small values at small whole numbers. Contents, remainders: what the code reckons. Common divisors and quotients: they are found, and what they are. Squarefree parts, layers, what stands an odd number of times, Sturm's chains: they are found, and what they are. Times as the code has them: they are cuts; halving. Which of two times is less. Comparing times; signs at times. All roots; the next time at which a sign turns. -/
import Derived.Test.YtbnjginelkkonaaGreatPart06
set_option linter.all false

namespace Orq
open Orr Go
def sd (x0 : Rat) : List Rat → List Rat
  | [] => []
  | _ :: p => qadd p (qsc x0 (sd x0 p))
theorem ev_sd (x0 x : Rat) : ∀ p, ev (sd x0 p) x = dq p x x0
  | [] => rfl
  | a :: p => by simp only [sd, dq]; rw [ev_qadd, ev_qsc, ev_sd x0 x p]
theorem sd_deg (x0 : Rat) : ∀ (g : List Rat) (n : Nat), (∀ j, n < j → g.getD j 0 = 0) → ∀ j, n ≤ j → (sd x0 g).getD j 0 = 0
  | [], n, _, j, _ => by simp [sd]
  | a :: p, 0, h, j, _ => by
    have hp : ∀ j, p.getD j 0 = 0 := fun j => by have := h (j + 1) (by omega); rwa [List.getD_cons_succ] at this
    simp only [sd]
    rw [getD_qadd, getD_qsc, hp, sd_deg x0 p 0 (fun j _ => hp j) j (Nat.zero_le _)]; grind
  | a :: p, n + 1, h, j, hj => by
    have hp : ∀ j, n < j → p.getD j 0 = 0 := fun j hj => by have := h (j + 1) (by omega); rwa [List.getD_cons_succ] at this
    simp only [sd]
    rw [getD_qadd, getD_qsc, hp j (by omega), sd_deg x0 p n hp j (by omega)]; grind
theorem interp {K : Rat} (hK : 0 ≤ K) : ∀ (e : Nat) (g : List Rat) (pts : List Int) (M : Rat), pts.length = e + 1 → pts.Nodup → (∀ x ∈ pts, qab (x : Rat) ≤ K) → (∀ k, e < k → g.getD k 0 = 0) → (∀ x ∈ pts, qab (ev g (x : Rat)) ≤ M) → ∀ k, qab (g.getD k 0) ≤ (2 * K + 3) ^ e * M
  | _, _, [], _, h, _, _, _, _ => by simp at h
  | 0, g, x0 :: xs, M, _, _, _, hg, hM => fun k => by
    have h0 := hM x0 (by simp)
    rw [Rat.pow_zero]
    cases k with
    | zero =>
      have e : ev g (x0 : Rat) = g.getD 0 0 := by
        cases g with
        | nil => rfl
        | cons a p =>
          have hp := ev_getD0 (p := p) fun j => by have := hg (j + 1) (by omega); rwa [List.getD_cons_succ] at this
          simp only [ev, hp, List.getD_cons_zero]; grind
      rw [← e]; grind
    | succ k =>
      rw [hg (k + 1) (by omega), qab_zero]
      have := qab_nn (ev g (x0 : Rat)); grind
  | e + 1, g, x0 :: xs, M, hl, hn, hb, hg, hM => fun k => by
    have hx0 := hb x0 (by simp)
    have hM0 := hM x0 (by simp)
    have hMn : 0 ≤ M := Rat.le_trans (qab_nn _) hM0
    rw [List.nodup_cons] at hn
    have ih := interp hK e (sd x0 g) xs (2 * M) (by simpa using hl) hn.2 (fun x hx => hb x (by simp [hx])) (fun j hj => sd_deg _ g (e + 1) hg j (by omega)) fun x hx => by
      have h1 := hM x (by simp [hx])
      have h2 := ev_dq (x : Rat) (x0 : Rat) g
      rw [← ev_sd] at h2
      have hne : x - x0 ≠ 0 := fun h => hn.1 (by rw [show x0 = x by omega]; exact hx)
      have h3 := one_le_int hne
      rw [Rat.intCast_sub] at h3
      have h4 : qab (ev g (x : Rat) - ev g (x0 : Rat)) ≤ 2 * M := by
        have := qab_add (ev g (x : Rat)) (-ev g (x0 : Rat))
        rw [qab_neg, show ev g (x : Rat) + -ev g (x0 : Rat) = ev g (x : Rat) - ev g (x0 : Rat) by grind] at this
        clear hM hb hg; grind
      rw [h2, qab_mul] at h4
      have h5 := Rat.mul_le_mul_of_nonneg_right h3 (qab_nn (ev (sd x0 g) x))
      clear hM hb hg; grind
    have e1 : ∀ t, ev g t = ev (qadd [ev g x0] (qadd (qsc (-x0) (sd x0 g)) (0 :: sd x0 g))) t := fun t => by
      have := ev_dq t (x0 : Rat) g
      rw [← ev_sd] at this
      simp only [ev_qadd, ev_qsc, ev]
      grind
    have hp1 : 1 ≤ (2 * K + 3) ^ e := (qpow_bd (R := 2 * K + 3) (x := 0) (by grind) (by rw [qab_zero]; grind) e).2
    have hpM := mul_nn (x := (2 * K + 3) ^ e) (y := M) (by grind) hMn
    have hpM1 := Rat.mul_le_mul_of_nonneg_right hp1 hMn
    rw [Rat.pow_succ, getD_ev e1 k, getD_qadd, getD_qadd, getD_qsc]
    have a1 := ih k
    have a2 : qab (-(x0 : Rat) * (sd (x0 : Rat) g).getD k 0) ≤ K * ((2 * K + 3) ^ e * (2 * M)) := qab_mul_le (by rw [qab_neg]; exact hx0) a1
    have fin : ∀ u v w : Rat, qab u ≤ M → qab v ≤ K * ((2 * K + 3) ^ e * (2 * M)) → qab w ≤ (2 * K + 3) ^ e * (2 * M) → qab (u + (v + w)) ≤ (2 * K + 3) ^ e * (2 * K + 3) * M := fun u v w h1 h2 h3 => by
      have b1 := qab_add u (v + w)
      have b2 := qab_add v w
      clear ih e1 hM hb hg a1 a2; grind
    refine fin _ _ _ ?_ a2 ?_
    · cases k with
      | zero => rw [List.getD_cons_zero]; exact hM0
      | succ k => rw [List.getD_cons_succ, List.getD_nil, qab_zero]; exact hMn
    · cases k with
      | zero => rw [List.getD_cons_zero, qab_zero]; clear ih e1 hM hb hg a1 a2 fin; grind
      | succ k => rw [List.getD_cons_succ]; exact ih k
/-- so many roots at most -/
theorem roots_le {g : List Rat} {e : Nat} (hg : ∀ k, e < k → g.getD k 0 = 0) (hz : ¬ ∀ t, ev g t = 0) {pts : List Int} (hn : pts.Nodup) (hr : ∀ x ∈ pts, ev g (x : Rat) = 0) : pts.length ≤ e := by
  rcases Nat.lt_or_ge e pts.length with h | h
  · exfalso
    obtain ⟨K, hK, hb⟩ : ∃ K : Rat, 0 ≤ K ∧ ∀ x ∈ pts, qab (x : Rat) ≤ K := by
      clear hn hr h
      induction pts with
      | nil => exact ⟨0, by decide, fun x hx => by cases hx⟩
      | cons y pts ih =>
        obtain ⟨K, h1, h2⟩ := ih
        refine ⟨K + qab (y : Rat), by have := qab_nn (y : Rat); grind, fun x hx => ?_⟩
        have hy := qab_nn (y : Rat)
        rcases List.mem_cons.1 hx with rfl | hx
        · grind
        · have := h2 x hx; grind
    refine hz (ev_getD0 fun k => ?_)
    have := interp hK e g (pts.take (e + 1)) 0 (by rw [List.length_take]; omega) (hn.sublist (List.take_sublist ..)) (fun x hx => hb x (List.mem_of_mem_take hx)) hg (fun x hx => by rw [hr x (List.mem_of_mem_take hx), qab_zero]; exact Rat.le_refl) k
    have h2 := qab_nn (g.getD k 0)
    exact qab_eq0 (by grind)
  · exact h
def spots : List Int := (List.range 19).map fun i : Nat => (i : Int) - 9
theorem spots_nd : spots.Nodup := by decide
theorem spots_bd : ∀ x ∈ spots, x.natAbs ≤ 9 := by decide
theorem filter_len {α : Type} (p : α → Bool) : ∀ l : List α, (l.filter p).length + (l.filter fun x => !p x).length = l.length
  | [] => rfl
  | x :: l => by
    have := filter_len p l
    cases h : p x <;> simp [h] <;> omega
def geo : Nat → Nat
  | 0 => 0
  | n + 1 => 1 + 9 * geo n
theorem evB_geo {B : Rat} : ∀ (p : List Int), (∀ z ∈ p, qab (z : Rat) ≤ B) → evB 9 (cz p) ≤ B * (geo p.length : Nat)
  | [], _ => by simp only [cz, List.map_nil, evB, geo, List.length_nil]; rw [show ((0 : Nat) : Rat) = 0 from rfl]; grind
  | a :: p, h => by
    have h1 := evB_geo p fun z hz => h z (List.mem_cons_of_mem _ hz)
    have h2 := h a (List.mem_cons_self ..)
    simp only [cz, List.map_cons, evB, geo, List.length_cons] at *
    push_cast
    clear h; grind
theorem geo_mono {m n : Nat} (h : m ≤ n) : geo m ≤ geo n := by
  induction h with
  | refl => exact Nat.le_refl _
  | step h ih => simp only [geo]; omega
def pz : List Int → Int → Int
  | [], _ => 0
  | a :: p, x => a + x * pz p x
theorem pev_pz (x : Int) : ∀ p, pev p (x : Rat) = ((pz p x : Int) : Rat)
  | [] => rfl
  | a :: p => by simp only [pev, pz, pev_pz x p]; push_cast; rfl
theorem natAbs_qab (z : Int) : qab (z : Rat) = ((z.natAbs : Nat) : Rat) := by
  unfold qab
  rcases Int.lt_or_le z 0 with h | h
  · have h1 : (z : Rat) < ((0 : Int) : Rat) := Rat.intCast_lt_intCast.2 h
    rw [if_pos (by simpa using h1)]
    have : (z.natAbs : Int) = -z := by omega
    have := congrArg (fun u : Int => (u : Rat)) this
    push_cast at this
    exact this.symm
  · have h1 : ((0 : Int) : Rat) ≤ (z : Rat) := Rat.intCast_le_intCast.2 h
    have h1 : (0 : Rat) ≤ (z : Rat) := by simpa using h1
    rw [if_neg (by grind)]
    have : (z.natAbs : Int) = z := by omega
    have := congrArg (fun u : Int => (u : Rat)) this
    exact this.symm
theorem fac_bd {p g h : List Int} {s : Nat} (hp : Bd s p) (hl : p.length ≤ 10) (tp : Trim p) (tg : Trim g) (th : Trim h) (h0 : p.length ≠ 0) (e : ∀ t, pev p t = pev g t * pev h t) : Bd (s + 69) g := by
  have lg : 0 < g.length := by
    rcases Nat.eq_zero_or_pos g.length with e' | e'
    · exact absurd (fun t => by rw [e, nil_pev e']; grind) (cz_nz tp (by omega))
    · exact e'
  have lh : 0 < h.length := by
    rcases Nat.eq_zero_or_pos h.length with e' | e'
    · exact absurd (fun t => by rw [e, nil_pev e']; grind) (cz_nz tp (by omega))
    · exact e'
  have hlen := len_mul tg th tp e lg lh
  obtain ⟨q, hq⟩ : ∃ q, q = spots.filter fun x => !decide (pz p x = 0) := ⟨_, rfl⟩
  have hr : (spots.filter fun x => decide (pz p x = 0)).length ≤ 9 := by
    refine roots_le (g := cz p) (e := 9) (fun k hk => ?_) (fun h => cz_nz tp (by omega) fun t => by rw [← ev_cz]; exact h t) (spots_nd.sublist List.filter_sublist) fun x hx => ?_
    · rw [getD_cz, List.getD_eq_getElem?_getD, List.getElem?_eq_none (by omega)]; rfl
    · have := (List.mem_filter.1 hx).2
      rw [ev_cz, pev_pz, of_decide_eq_true this]; rfl
  have hc := filter_len (fun x => decide (pz p x = 0)) spots
  rw [← hq] at hc
  have hsl : spots.length = 19 := by decide
  have hB : ∀ z ∈ p, qab (z : Rat) ≤ ((2 ^ s : Nat) : Rat) := fun z hz => by
    rw [natAbs_qab]
    have := hp z hz
    rw [isz_le] at this
    exact Rat.natCast_le_natCast.2 (Nat.le_of_lt this)
  have key := interp (K := 9) (by decide) 9 (cz g) (q.take 10) (((2 ^ s * 435848050 : Nat)) : Rat) (by rw [List.length_take]; omega) ((spots_nd.sublist (by rw [hq]; exact List.filter_sublist)).sublist (List.take_sublist ..)) (fun x hx => by
      have hx := List.mem_of_mem_take hx
      rw [hq] at hx
      have := spots_bd x (List.mem_filter.1 hx).1
      rw [natAbs_qab]
      exact_mod_cast Rat.natCast_le_natCast.2 this) (fun k hk => by rw [getD_cz, List.getD_eq_getElem?_getD, List.getElem?_eq_none (by omega)]; rfl) (fun x hx => by
      have hx := List.mem_of_mem_take hx
      rw [hq] at hx
      obtain ⟨hx1, hx2⟩ := List.mem_filter.1 hx
      have hne : pz p x ≠ 0 := by simpa using hx2
      have e1 := e (x : Rat)
      rw [pev_pz, pev_pz, pev_pz] at e1
      have e2 : pz p x = pz g x * pz h x := by exact_mod_cast e1
      have hh : 1 ≤ (pz h x).natAbs := by
        rcases Nat.eq_zero_or_pos (pz h x).natAbs with e' | e'
        · exact absurd (by rw [e2, Int.natAbs_eq_zero.1 e', Int.mul_zero]) hne
        · exact e'
      have h3 : (pz g x).natAbs ≤ (pz p x).natAbs := by
        rw [e2, Int.natAbs_mul]
        exact Nat.le_mul_of_pos_right _ hh
      rw [ev_cz, pev_pz, natAbs_qab]
      refine Rat.le_trans (Rat.natCast_le_natCast.2 h3) ?_
      rw [← natAbs_qab, ← pev_pz, ← ev_cz]
      refine Rat.le_trans (ev_bd (R := 9) (by
        have := spots_bd x hx1
        rw [natAbs_qab]
        exact_mod_cast Rat.natCast_le_natCast.2 this) _) ?_
      refine Rat.le_trans (evB_geo p hB) ?_
      have : 2 ^ s * geo p.length ≤ 2 ^ s * 435848050 := Nat.mul_le_mul_left _ (Nat.le_trans (geo_mono hl) (by decide))
      have := Rat.natCast_le_natCast.2 this
      push_cast at this ⊢
      exact this)
  refine bd_of_getD fun k => ?_
  have h1 := key k
  rw [getD_cz, natAbs_qab] at h1
  have e3 : (2 * (9 : Rat) + 3) ^ 9 * ((2 ^ s * 435848050 : Nat) : Rat) = (((794280046581 * (2 ^ s * 435848050)) : Nat) : Rat) := by
    rw [show (2 * (9 : Rat) + 3) ^ 9 = 794280046581 by grind]
    push_cast; rfl
  rw [e3] at h1
  have h2 := Rat.natCast_le_natCast.1 h1
  rw [isz_le]
  refine Nat.lt_of_le_of_lt h2 ?_
  have : 794280046581 * (2 ^ s * 435848050) = 2 ^ s * (794280046581 * 435848050) := by
    rw [Nat.mul_left_comm]
  rw [this, Nat.pow_add]
  exact Nat.mul_lt_mul_of_pos_left (by decide) (Nat.pow_pos (by decide))
end Orq

namespace Orq
open Orr Go
theorem dvd_gcdL {l : List Int} {d : Int} (h : ∀ z ∈ l, d ∣ z) : d ∣ ((gcdL l : Nat) : Int) := by
  have key : ∀ (l : List Int) (g : Nat), d.natAbs ∣ g → (∀ z ∈ l, d ∣ z) → d.natAbs ∣ l.foldl (fun g z => Nat.gcd g z.natAbs) g := by
    intro l
    induction l with
    | nil => exact fun g h _ => h
    | cons z l ih => exact fun g hg h => ih _ (Nat.dvd_gcd hg (Int.natAbs_dvd_natAbs.2 (h z (List.mem_cons_self ..)))) fun u hu => h u (List.mem_cons_of_mem _ hu)
  have := key l 0 (Nat.dvd_zero _) h
  exact Int.natAbs_dvd_natAbs.1 (by rw [Int.natAbs_natCast]; exact this)
theorem getD_map_div (p : List Int) (c : Int) (k : Nat) : (p.map (· / c)).getD k 0 = p.getD k 0 / c := by
  rw [List.getD_eq_getElem?_getD, List.getD_eq_getElem?_getD, List.getElem?_map]
  cases p[k]? <;> simp
theorem pover_getD (p : List Int) (c : Int) (k : Nat) : (pover p c).getD k 0 = p.getD k 0 / c := by
  unfold pover; rw [trim_getD, getD_map_div]
theorem pev_pover {p : List Int} {c : Int} (h : ∀ z ∈ p, c ∣ z) (t : Rat) : pev p t = (c : Rat) * pev (pover p c) t := by
  have := pev_lin c 0 t (max p.length (pover p c).length) (pover p c) [] p (by omega) (by simp) (by omega) fun k => by
    rw [pover_getD]
    have hd : c ∣ p.getD k 0 := by
      rw [List.getD_eq_getElem?_getD]
      cases e : p[k]? with
      | none => exact Int.dvd_zero _
      | some z => exact h z (List.mem_of_getElem? e)
    rw [Int.mul_ediv_cancel' hd]; simp
  rw [this]; simp only [pev]; push_cast; grind
theorem int_ne {c : Int} (h : c ≠ 0) : (c : Rat) ≠ 0 := fun e => h (by exact_mod_cast e)
theorem len_of_scale {p q : List Int} {c : Rat} (tp : Trim p) (tq : Trim q) (hc : c ≠ 0) (h : ∀ t, pev p t = c * pev q t) : p.length = q.length := by
  have key : ∀ {p q : List Int} {c : Rat}, Trim p → Trim q → c ≠ 0 → (∀ t, pev p t = c * pev q t) → p.length ≤ q.length := fun {p q c} tp tq hc h => by
    rcases Nat.lt_or_ge q.length p.length with e | e
    · have h1 := trim_zero tp (by omega)
      have := getD_ev (p := cz p) (q := qsc c (cz q)) (fun t => by rw [ev_cz, ev_qsc, ev_cz, h]) (p.length - 1)
      rw [getD_cz, getD_qsc, getD_cz, List.getD_eq_getElem?_getD (l := q), List.getElem?_eq_none (by omega)] at this
      have : ((p.getD (p.length - 1) 0 : Int) : Rat) = 0 := by rw [this]; simp
      exact absurd (by exact_mod_cast this) h1
    · exact e
  refine Nat.le_antisymm (key tp tq hc h) (key (c := 1 / c) tq tp (fun e => ?_) fun t => ?_)
  · have := Rat.div_mul_cancel (a := 1) hc; rw [e] at this; grind
  · rw [h]; have := Rat.div_mul_cancel (a := 1) hc; grind
theorem prime_ok {p : List Int} (tp : Trim p) (h : p.length ≠ 0) : Trim (prime p) ∧ (prime p).length = p.length ∧ Prm (prime p) ∧ 0 < lead (prime p) ∧ (∀ s, Bd s p → Bd s (prime p)) ∧ pfac p ≠ 0 ∧ ∀ t, pev p t = (pfac p : Rat) * pev (prime p) t := by
  have h0 := pfac_ne tp h
  have e : prime p = pover p (pfac p) := by unfold prime; rw [if_neg h]
  have h1 := pev_pover (p := p) (c := pfac p) pfac_dvd
  have hl := len_of_scale tp (trim_pover p (pfac p)) (int_ne h0) h1
  have hcp : 0 < pcont p := by
    have := pcont_ne tp h
    unfold pcont at this ⊢; omega
  rw [e]
  refine ⟨trim_pover _ _, hl.symm, fun d hd => ?_, ?_, fun s hs => bd_pover hs _, h0, h1⟩
  · have h2 : ∀ z ∈ p, d * pfac p ∣ z := fun z hz => by
      obtain ⟨i, hi⟩ := List.mem_iff_getElem?.1 hz
      have h3 := hd i
      rw [pover_getD, List.getD_eq_getElem?_getD, hi] at h3
      obtain ⟨k, hk⟩ := h3
      have h4 := pfac_dvd z hz
      refine ⟨k, ?_⟩
      have : z / pfac p * pfac p = z := Int.ediv_mul_cancel h4
      rw [← this]
      rw [show z / pfac p = d * k from hk, Int.mul_right_comm]
    have h3 := dvd_gcdL h2
    have h4 : pfac p ∣ ((gcdL p : Nat) : Int) ∧ ((gcdL p : Nat) : Int) ∣ pfac p := by
      unfold pfac pcont; split
      · exact ⟨Int.neg_dvd.2 (Int.dvd_refl _), Int.dvd_neg.2 (Int.dvd_refl _)⟩
      · exact ⟨Int.dvd_refl _, Int.dvd_refl _⟩
    obtain ⟨k, hk⟩ := Int.dvd_trans h3 h4.2
    refine ⟨k, ?_⟩
    have : pfac p * (d * k) = pfac p * 1 := by rw [Int.mul_one, ← Int.mul_assoc, Int.mul_comm (pfac p) d, ← hk]
    exact (Int.eq_of_mul_eq_mul_left h0 this).symm
  · have h2 : lead (pover p (pfac p)) = lead p / pfac p := by unfold lead; rw [← hl, pover_getD]
    have h3 : pfac p ∣ lead p := pfac_dvd _ (lead_mem h)
    have h5 : lead p / pfac p * pfac p = lead p := Int.ediv_mul_cancel h3
    rw [h2]
    have h6 := lead_ne tp h
    rcases Int.lt_trichotomy (lead p / pfac p) 0 with e1 | e1 | e1
    · exfalso
      by_cases hn : lead p < 0
      · have : pfac p = -pcont p := by unfold pfac; rw [if_pos hn]
        have : 0 < lead p / pfac p * pfac p := Int.mul_pos_of_neg_of_neg e1 (by omega)
        omega
      · have : pfac p = pcont p := by unfold pfac; rw [if_neg hn]
        have : lead p / pfac p * pfac p < 0 := Int.mul_neg_of_neg_of_pos e1 (by omega)
        omega
    · rw [e1] at h5; omega
    · exact e1
theorem pnice_ev {r : List Int} (tr : Trim r) : ∃ c : Rat, 0 < c ∧ ∀ t, pev r t = c * pev (pnice r) t := by
  unfold pnice
  by_cases h : r.length = 0
  · rw [if_pos h]; exact ⟨1, by decide, fun t => by rw [nil_pev h, nil_pev rfl]; grind⟩
  · rw [if_neg h]
    have h1 : 0 < pcont r := by
      have := pcont_ne tr h
      unfold pcont at this ⊢; omega
    have h2 : ((0 : Int) : Rat) < (pcont r : Rat) := Rat.intCast_lt_intCast.2 h1
    exact ⟨pcont r, by simpa using h2, pev_pover pcont_dvd⟩
/-! ### one step of a division -/
theorem pev_mono (x : Int) (t : Rat) : ∀ i, pev (mono i x) t = (x : Rat) * t ^ i
  | 0 => by simp only [mono, List.replicate_zero, List.nil_append, pev, Rat.pow_zero]; grind
  | i + 1 => by
    have ih := pev_mono x t i
    simp only [mono, List.replicate_succ, List.cons_append, pev] at *
    rw [ih, Rat.pow_succ]; push_cast; grind
theorem mb_getD (x : Int) (b : List Int) (i k : Nat) : (pmul (trim (mono i x)) b).getD k 0 = if i ≤ k then x * b.getD (k - i) 0 else 0 := by
  have e : ∀ t, pev (pmul (trim (mono i x)) b) t = pev (List.replicate i 0 ++ b.map (x * ·)) t := fun t => by
    rw [pev_pmul, pev_trim, pev_mono]
    have h2 : ∀ i, pev (List.replicate i 0 ++ b.map (x * ·)) t = t ^ i * ((x : Rat) * pev b t) := fun i => by
      induction i with
      | zero =>
        simp only [List.replicate_zero, List.nil_append, Rat.pow_zero]
        have := pev_lin x 0 t (max b.length (b.map (x * ·)).length) b [] (b.map (x * ·)) (by omega) (by simp) (by omega) fun k => by
          rw [List.getD_eq_getElem?_getD, List.getD_eq_getElem?_getD, List.getElem?_map]
          cases b[k]? <;> simp
        rw [this]; simp only [pev]; push_cast; grind
      | succ i ih => simp only [List.replicate_succ, List.cons_append, pev, ih, Rat.pow_succ]; push_cast; grind
    rw [h2]; grind
  rw [pev_coef e k, List.getD_eq_getElem?_getD, List.getElem?_append, List.length_replicate]
  by_cases h : i ≤ k
  · rw [if_neg (by omega), if_pos h, List.getElem?_map, List.getD_eq_getElem?_getD]
    cases b[k - i]? <;> simp
  · rw [if_pos (by omega), if_neg h, List.getElem?_replicate, if_pos (by omega)]; rfl
theorem len_lt {p : List Int} {n : Nat} (tp : Trim p) (h : p.length ≤ n + 1) (h0 : p.getD n 0 = 0) : p.length ≤ n := by
  rcases Nat.lt_or_ge n p.length with e | e
  · have := trim_zero tp (by omega)
    rw [show p.length - 1 = n by omega] at this
    exact absurd h0 this
  · exact e
/-- the leading terms of both go -/
theorem str_len {b r : List Int} {i : Nat} (tr : Trim r) (h : r.length ≤ b.length + i) (hb : b.length ≠ 0) {x : Int} (hx : x = if r.length = b.length + i then lead r else 0) : (str b (lead b) i x r).length < b.length + i := by
  have hl := len_str (c := lead b) (x := x) (i := i) (b := b) (r := r)
  have := len_lt (p := str b (lead b) i x r) (n := b.length + i - 1) (each_trim _ _) (by omega) (by
    unfold str
    rw [psub_getD, pscale_getD, mb_getD, if_pos (by omega), hx, show b.length + i - 1 - i = b.length - 1 by omega]
    split
    · rename_i he
      unfold lead
      rw [he, Int.sub_eq_zero]
    · rw [List.getD_eq_getElem?_getD (l := r), List.getElem?_eq_none (by omega)]; simp)
  omega
theorem str_ev (b r : List Int) (c : Int) (i : Nat) (x : Int) (t : Rat) : (c : Rat) * pev r t = (x : Rat) * t ^ i * pev b t + pev (str b c i x r) t := by
  unfold str
  rw [pev_psub, pev_pscale, pev_pmul, pev_trim, pev_mono]; grind
theorem psd_ev (b : List Int) (c : Int) : ∀ (i : Nat) (q r : List Int), ∃ X : List Rat, ∀ t, ((c ^ i : Int) : Rat) * pev r t = ev X t * pev b t + pev (psd b c i (q, r)).2 t
  | 0, q, r => ⟨[], fun t => by simp only [psd, ev]; rw [Int.pow_zero]; push_cast; grind⟩
  | i + 1, q, r => by
    obtain ⟨x, hx⟩ : ∃ x, x = if r.length = b.length + i then lead r else 0 := ⟨_, rfl⟩
    obtain ⟨X, hX⟩ := psd_ev b c i (stq c i x q) (str b c i x r)
    obtain ⟨m, hm⟩ : ∃ m : List Rat, ∀ t, ev m t = (x : Rat) * t ^ i := ⟨cz (mono i x), fun t => by rw [ev_cz, pev_mono]⟩
    refine ⟨qadd (qsc ((c ^ i : Int) : Rat) m) X, fun t => ?_⟩
    rw [psd_step hx, ev_qadd, ev_qsc, hm]
    have h1 := hX t
    have h2 := str_ev b r c i x t
    rw [Int.pow_succ]
    push_cast at h1 ⊢
    have : (c : Rat) ^ i * c * pev r t = (c : Rat) ^ i * ((c : Rat) * pev r t) := by grind
    rw [this, h2]; grind
theorem psd_len {b : List Int} (hb : b.length ≠ 0) : ∀ (i : Nat) (q r : List Int), Trim r → r.length < b.length + i → Trim (psd b (lead b) i (q, r)).2 ∧ (psd b (lead b) i (q, r)).2.length < b.length
  | 0, q, r, tr, h => ⟨tr, h⟩
  | i + 1, q, r, tr, h => by
    rw [psd_step rfl]
    exact psd_len hb i _ _ (each_trim _ _) (str_len tr (by omega) hb rfl)
theorem psd_bd {b : List Int} {c : Int} {t : Nat} (hb : Bd t b) (hc : isz c ≤ t) : ∀ (i u : Nat) (q r : List Int), i ≤ 64 → Bd u r → Bd (u + i * (t + 8)) (psd b c i (q, r)).2
  | 0, u, q, r, _, h => by simpa [psd] using h
  | i + 1, u, q, r, hi, h => by
    rw [psd_step rfl]
    have hx : isz (if r.length = b.length + i then lead r else 0) ≤ u := by
      split
      · exact isz_lead h
      · rw [isz_zero]; exact Nat.zero_le _
    have := psd_bd hb hc i (u + t + 8) (stq c i (if r.length = b.length + i then lead r else 0) q) (str b c i (if r.length = b.length + i then lead r else 0) r) (by omega) (bd_str h hb hc hx (by omega))
    exact bd_mono this (by rw [Nat.succ_mul]; omega)
theorem pow_sign {c : Int} (h : c < 0) : ∀ k : Nat, (k % 2 = 1 → c ^ k < 0) ∧ (k % 2 = 0 → 0 < c ^ k)
  | 0 => ⟨fun h => by omega, fun _ => by rw [Int.pow_zero]; decide⟩
  | k + 1 => by
    obtain ⟨i1, i2⟩ := pow_sign h k
    rw [Int.pow_succ]
    exact ⟨fun hk => Int.mul_neg_of_pos_of_neg (i2 (by omega)) h, fun hk => Int.mul_pos_of_neg_of_neg (i1 (by omega)) h⟩
/-- a remainder: what it is, how long, how great -/
theorem rest_ok {a b : List Int} (ta : Trim a) (tb : Trim b) (hb : b.length ≠ 0) (hl : a.length ≤ 60) : Trim (prest a b) ∧ (prest a b).length < b.length ∧ (∀ s, Bd s a → Bd s b → Bd (s + (a.length + 1 - b.length) * (s + 8)) (prest a b)) ∧
    ∃ u v : Rat, 0 < u ∧ 0 < v ∧ ∃ X : List Rat, ∀ t, u * pev a t = ev X t * pev b t + v * pev (prest a b) t := by
  obtain ⟨k, hk⟩ : ∃ k, k = a.length + 1 - b.length := ⟨_, rfl⟩
  have h1 : Trim (prem a b) ∧ (prem a b).length < b.length := psd_len hb _ _ _ ta (by omega)
  obtain ⟨X, hX⟩ := psd_ev b (lead b) k [] a
  have hX : ∀ t, (((lead b) ^ k : Int) : Rat) * pev a t = ev X t * pev b t + pev (prem a b) t := by unfold prem; rw [← hk]; exact hX
  have h2 := pturn_ok (a := a) (b := b) (r := prem a b) (n := (prem a b).length) (s := (prem a b).foldl (fun m z => m + isz z) 0) h1.1 (Nat.le_refl _) (fun z hz => by
    have key : ∀ (l : List Int) (m : Nat), m ≤ l.foldl (fun m z => m + isz z) m ∧ ∀ z ∈ l, isz z ≤ l.foldl (fun m z => m + isz z) m := by
      intro l
      induction l with
      | nil => exact fun m => ⟨Nat.le_refl _, fun z hz => by cases hz⟩
      | cons y l ih =>
        intro m
        obtain ⟨i1, i2⟩ := ih (m + isz y)
        refine ⟨by simp only [List.foldl_cons]; omega, fun z hz => ?_⟩
        simp only [List.foldl_cons]
        rcases List.mem_cons.1 hz with rfl | hz
        · omega
        · exact i2 z hz
    exact (key _ 0).2 z hz)
  have h3 := pnice_ok (r := pturn a b (prem a b)) (n := (prem a b).length) h2.2.1 h2.2.2
  refine ⟨h3.1, by unfold prest; omega, fun s ha hbs => ?_, ?_⟩
  · have h4 := psd_bd (c := lead b) hbs (isz_lead hbs) k s [] a (by omega) ha
    have h5 := pturn_ok (a := a) (b := b) (n := (prem a b).length) h1.1 (Nat.le_refl _) (show Bd (s + k * (s + 8)) (prem a b) by unfold prem; rw [← hk]; exact h4)
    rw [← hk]
    exact (pnice_ok h5.2.1 h5.2.2).2.2
  · obtain ⟨v, vp, hv⟩ := pnice_ev h2.1
    have hc := lead_ne tb hb
    by_cases ht : k % 2 = 1 ∧ lead b < 0
    · have e1 : pturn a b (prem a b) = pneg (prem a b) := by unfold pturn; rw [← hk, if_pos ht]
      have hneg : (lead b) ^ k < 0 := (pow_sign ht.2 k).1 ht.1
      have h5 : (((lead b) ^ k : Int) : Rat) < ((0 : Int) : Rat) := Rat.intCast_lt_intCast.2 hneg
      have h5 : (((lead b) ^ k : Int) : Rat) < 0 := by simpa using h5
      refine ⟨-(((lead b) ^ k : Int) : Rat), v, by grind, vp, qsc (-1) X, fun t => ?_⟩
      have h6 := hX t
      have h7 := hv t
      rw [e1, pev_pneg] at h7
      show _ = _ + v * pev (pnice (pturn a b (prem a b))) t
      rw [e1, ← h7, ev_qsc]; grind
    · have e1 : pturn a b (prem a b) = prem a b := by unfold pturn; rw [← hk, if_neg ht]
      have hpos : 0 < (lead b) ^ k := by
        rcases Int.lt_or_lt_of_ne hc with h | h
        · exact (pow_sign h k).2 (by omega)
        · exact Int.pow_pos h
      have h5 : ((0 : Int) : Rat) < (((lead b) ^ k : Int) : Rat) := Rat.intCast_lt_intCast.2 hpos
      refine ⟨(((lead b) ^ k : Int) : Rat), v, by simpa using h5, vp, X, fun t => ?_⟩
      have h7 := hv t
      show _ = _ + v * pev (pnice (pturn a b (prem a b))) t
      rw [← h7, e1, hX]
end Orq

namespace Orq
open Orr Go
theorem chk_some {p : List Int} (h1 : p.length ≤ 64) (h2 : Bd 16777216 p) : chk p = some p := by
  unfold chk
  rw [if_pos ⟨h1, List.all_eq_true.2 fun z hz => Nat.ble_eq_true_of_le (h2 z hz)⟩]
theorem dvd_scale {a b : List Int} {g : List Rat} {c : Rat} (hc : c ≠ 0) (h : ∀ t, pev a t = c * pev b t) : Dvd g (cz a) ↔ Dvd g (cz b) := by
  constructor
  · rintro ⟨u, hu⟩
    refine ⟨qsc (1 / c) u, fun t => ?_⟩
    have h1 := hu t
    rw [ev_cz, h] at h1
    rw [ev_cz, ev_qsc]
    have h2 : 1 / c * c = 1 := Rat.div_mul_cancel hc
    have : pev b t = 1 / c * (c * pev b t) := by grind
    rw [this, h1]; grind
  · rintro ⟨u, hu⟩
    refine ⟨qsc c u, fun t => ?_⟩
    have h1 := hu t
    rw [ev_cz] at h1
    rw [ev_cz, ev_qsc, h, h1]; grind
structure Gc (g a b : List Int) : Prop where
  t : Trim g
  da : Dvd (cz g) (cz a)
  db : Dvd (cz g) (cz b)
  c : ∃ U V, ∀ t, pev g t = ev U t * pev a t + ev V t * pev b t
  n : g.length ≠ 0
theorem Gc.scale {g a b g' a' b' : List Int} {x y z : Rat} (h : Gc g a b) (hx : x ≠ 0) (hy : y ≠ 0) (hz : z ≠ 0) (tg : Trim g') (eg : ∀ t, pev g t = x * pev g' t) (ea : ∀ t, pev a' t = y * pev a t) (eb : ∀ t, pev b' t = z * pev b t) : Gc g' a' b' := by
  have hx1 : 1 / x * x = 1 := Rat.div_mul_cancel hx
  have hy1 : 1 / y * y = 1 := Rat.div_mul_cancel hy
  have hz1 : 1 / z * z = 1 := Rat.div_mul_cancel hz
  have hg : ∀ c, Dvd (cz g) c → Dvd (cz g') c := fun c ⟨u, hu⟩ => ⟨qsc x u, fun t => by rw [hu, ev_cz, ev_cz, eg, ev_qsc]; grind⟩
  obtain ⟨U, V, hc⟩ := h.c
  refine ⟨tg, hg _ ((dvd_scale hy ea).2 h.da), hg _ ((dvd_scale hz eb).2 h.db), ⟨qsc (1 / x * (1 / y)) U, qsc (1 / x * (1 / z)) V, fun t => ?_⟩, ?_⟩
  · have h1 := hc t
    have h2 : pev g' t = 1 / x * pev g t := by rw [eg]; grind
    rw [h2, h1, ev_qsc, ev_qsc, ea, eb]
    generalize ev U t = u at *
    generalize ev V t = v at *
    grind
  · rw [← len_of_scale h.t tg hx eg]; exact h.n
theorem pow3 : ∀ d : Nat, 1 ≤ d → d + 2 ≤ 3 ^ d
  | 0, h => by omega
  | 1, _ => by decide
  | d + 2, _ => by have := pow3 (d + 1) (by omega); rw [Nat.pow_succ]; omega
theorem two_step {k : Nat} {a b : List Int} (ta : Trim a) (tb : Trim b) (hb : b.length ≠ 0) (hl : a.length ≤ 60) (hbl : b.length ≤ 60) (hr : Bd 16777216 (prest a b)) (ih : ∃ g, twoF k b (prest a b) = some g ∧ Gc g b (prest a b)) : ∃ g, twoF (k + 1) a b = some g ∧ Gc g a b := by
  obtain ⟨h1, h2, h3, u, v, up, vp, X, hX⟩ := rest_ok ta tb hb hl
  obtain ⟨g, e, hg⟩ := ih
  refine ⟨g, ?_, ?_⟩
  · simp only [twoF]
    rw [if_neg hb, chk_some (by omega) hr]; exact e
  · obtain ⟨U, V, hc⟩ := hg.c
    obtain ⟨y, hy⟩ := hg.da
    obtain ⟨z, hz⟩ := hg.db
    have hu : 1 / u * u = 1 := div_mul up
    have hv : 1 / v * v = 1 := div_mul vp
    refine ⟨hg.t, ⟨qsc (1 / u) (qadd (qmul X y) (qsc v z)), fun t => ?_⟩, hg.da, ⟨qsc (u / v) V, qadd U (qsc (-1 / v) (qmul V X)), fun t => ?_⟩, hg.n⟩
    · have a1 := hX t; have a2 := hy t; have a3 := hz t
      rw [ev_cz, ev_cz] at a2 a3
      rw [ev_cz, ev_cz, ev_qsc, ev_qadd, ev_qmul, ev_qsc]
      have : pev a t = 1 / u * (u * pev a t) := by grind
      rw [this, a1, a2, a3]; grind
    · have a1 := hX t; have a2 := hc t
      rw [ev_qsc, ev_qadd, ev_qsc, ev_qmul, a2]
      have : pev (prest a b) t = 1 / v * (v * pev (prest a b) t) := by grind
      rw [this, show v * pev (prest a b) t = u * pev a t - ev X t * pev b t by grind, Rat.div_def, Rat.div_def, Rat.div_def]
      grind
theorem two_nil {k : Nat} {a : List Int} (ta : Trim a) (ha : a.length ≠ 0) : ∃ g, twoF (k + 1) a [] = some g ∧ Gc g a [] :=
  ⟨a, rfl, ta, dvd_refl _, ⟨[], fun t => by simp only [cz, List.map_nil, ev]; grind⟩, ⟨[1], [], fun t => by rw [ev_one]; simp only [ev]; grind⟩, ha⟩
theorem twoF_some {s : Nat} : ∀ (k : Nat) (a b : List Int), Trim a → Trim b → b.length < k → b.length < a.length → a.length ≤ 60 → Bd s a → Bd s b → (s + 8) * 3 ^ (a.length - 1) ≤ 16777216 → ∃ g, twoF k a b = some g ∧ Gc g a b
  | 0, _, _, _, _, h, _, _, _, _, _ => by omega
  | k + 1, a, b, ta, tb, hk, hab, hl, ba, bb, hs => by
    by_cases hb : b.length = 0
    · rw [List.eq_nil_of_length_eq_zero hb]; exact two_nil ta (by omega)
    · obtain ⟨h1, h2, h3, _⟩ := rest_ok ta tb hb hl
      have h3 := h3 s ba bb
      obtain ⟨m, hm⟩ : ∃ m, m = a.length - b.length := ⟨_, rfl⟩
      have e1 : a.length + 1 - b.length = m + 1 := by omega
      rw [e1] at h3
      have e2 : s + (m + 1) * (s + 8) + 8 = (m + 2) * (s + 8) := by
        rw [show m + 2 = (m + 1) + 1 by omega, Nat.succ_mul (m + 1)]; omega
      have e3 : (m + 2) * (s + 8) * 3 ^ (b.length - 1) ≤ (s + 8) * 3 ^ (a.length - 1) := by
        rw [show a.length - 1 = m + (b.length - 1) by omega, Nat.pow_add, ← Nat.mul_assoc, Nat.mul_comm (s + 8)]
        exact Nat.mul_le_mul_right _ (Nat.mul_le_mul_right _ (pow3 m (by omega)))
      have e4 : s + (m + 1) * (s + 8) ≤ 16777216 := by
        have : (m + 2) * (s + 8) ≤ (m + 2) * (s + 8) * 3 ^ (b.length - 1) := Nat.le_mul_of_pos_right _ (Nat.pow_pos (by decide))
        omega
      refine two_step ta tb hb hl (by omega) (bd_mono h3 e4) (twoF_some (s := s + (m + 1) * (s + 8)) k b (prest a b) tb h1 (by omega) h2 (by omega) (bd_mono bb (by omega)) h3 ?_)
      rw [e2]; omega
/-- small enough for all that is to be reckoned -/
def Szz (n s : Nat) : Prop := n ≤ 10 ∧ 2 * (s + 8) * 3 ^ (n - 1) ≤ 16777216
theorem twoF_all {n s : Nat} (hz : Szz n s) {a b : List Int} (ta : Trim a) (tb : Trim b) (la : a.length ≤ n) (lb : b.length ≤ n) (ba : Bd s a) (bb : Bd s b) (h0 : a.length ≠ 0 ∨ b.length ≠ 0) : ∃ g, twoF 66 a b = some g ∧ Gc g a b := by
  obtain ⟨hn, hz⟩ := hz
  have hp : ∀ l, l ≤ n → (s + 8) * 3 ^ (l - 1) ≤ 8388608 := fun l hl => by
    have : (s + 8) * 3 ^ (l - 1) ≤ (s + 8) * 3 ^ (n - 1) := Nat.mul_le_mul_left _ (Nat.pow_le_pow_right (by decide) (by omega))
    rw [Nat.mul_assoc] at hz; omega
  rcases Nat.lt_or_ge b.length a.length with h | h
  · exact twoF_some 66 a b ta tb (by omega) h (by omega) ba bb (by have := hp a.length la; omega)
  · by_cases hb : b.length = 0
    · rw [List.eq_nil_of_length_eq_zero hb]; exact two_nil ta (by omega)
    · obtain ⟨h1, h2, h3, _⟩ := rest_ok ta tb hb (by omega)
      have h3 := h3 s ba bb
      have h4 : (a.length + 1 - b.length) * (s + 8) ≤ 1 * (s + 8) := Nat.mul_le_mul_right _ (by omega)
      have h5 := hp b.length lb
      have h6 : (s + 8) * 1 ≤ (s + 8) * 3 ^ (b.length - 1) := Nat.mul_le_mul_left _ (Nat.pow_pos (by decide))
      refine two_step ta tb hb (by omega) (by omega) (bd_mono h3 (by omega)) (twoF_some (s := 2 * s + 8) 65 b (prest a b) tb h1 (by omega) h2 (by omega) (bd_mono bb (by omega)) (bd_mono h3 (by omega)) ?_)
      rw [show 2 * s + 8 + 8 = 2 * (s + 8) by omega, Nat.mul_assoc]; omega
theorem prime_nil : prime [] = [] := rfl
theorem prime_sc {a : List Int} (ta : Trim a) : Trim (prime a) ∧ (prime a).length = a.length ∧ (∀ s, Bd s a → Bd s (prime a)) ∧ ∃ c : Rat, c ≠ 0 ∧ ∀ t, pev a t = c * pev (prime a) t := by
  by_cases h : a.length = 0
  · rw [List.eq_nil_of_length_eq_zero h]
    exact ⟨rfl, rfl, fun s _ => bd_nil, 1, by decide, fun t => by rw [prime_nil]; grind⟩
  · obtain ⟨h1, h2, h3, h4, h5, h6, h7⟩ := prime_ok ta h
    exact ⟨h1, h2, h5, _, int_ne h6, h7⟩
theorem two_ok {n s : Nat} (hz : Szz n s) {a b : List Int} (ta : Trim a) (tb : Trim b) (la : a.length ≤ n) (lb : b.length ≤ n) (ba : Bd s a) (bb : Bd s b) (h0 : a.length ≠ 0 ∨ b.length ≠ 0) : ∃ g, ptwo a b = some g ∧ Gc g a b ∧ Prm g ∧ 0 < lead g := by
  obtain ⟨a1, a2, a3, x, xn, ax⟩ := prime_sc ta
  obtain ⟨b1, b2, b3, y, yn, bx⟩ := prime_sc tb
  obtain ⟨g, e, hg⟩ := twoF_all hz a1 b1 (by omega) (by omega) (a3 s ba) (b3 s bb) (by omega)
  obtain ⟨g1, g2, g3, g4, g5, g6, g7⟩ := prime_ok hg.t hg.n
  refine ⟨prime g, ?_, hg.scale (int_ne g6) xn yn g1 g7 ax bx, g3, g4⟩
  unfold ptwo; rw [e]; rfl
theorem two_nil_l {a : List Int} (ta : Trim a) : ptwo [] a = some (prime (prime a)) := by
  unfold ptwo
  rw [prime_nil]
  by_cases h : (prime a).length = 0
  · have e : prime a = [] := List.eq_nil_of_length_eq_zero h
    rw [e]; rfl
  · have e : prest [] (prime a) = [] := by
      have e1 : prem [] (prime a) = [] := by unfold prem; rw [show ([] : List Int).length + 1 - (prime a).length = 0 by simp; omega]; rfl
      unfold prest
      rw [e1]
      unfold pturn
      split <;> rfl
    have : twoF 66 [] (prime a) = some (prime a) := by
      show (if (prime a).length = 0 then _ else _) = _
      rw [if_neg h, e]; rfl
    rw [this]; rfl
theorem gcd_ok {n s : Nat} (hz : Szz n s) {a b : List Int} (ta : Trim a) (tb : Trim b) (la : a.length ≤ n) (lb : b.length ≤ n) (ba : Bd s a) (bb : Bd s b) (h0 : a.length ≠ 0) : ∃ g, pgcd a b = some g ∧ Gc g a b ∧ Prm g ∧ 0 < lead g := by
  obtain ⟨a1, a2, a3, x, xn, ax⟩ := prime_sc ta
  obtain ⟨b1, b2, b3, y, yn, bx⟩ := prime_sc a1
  obtain ⟨g, e, hg, h1, h2⟩ := two_ok hz b1 tb (by omega) lb (b3 s (a3 s ba)) bb (by omega)
  refine ⟨g, ?_, hg.scale (x := 1) (y := x * y) (z := 1) (by decide) (fun h => (Rat.mul_eq_zero.1 h).elim xn yn) (by decide) hg.t (fun t => by grind) (fun t => by rw [ax, bx]; grind) (fun t => by grind), h1, h2⟩
  unfold pgcd
  rw [two_nil_l ta]; exact e
/-! ### quotients -/
theorem top_mul : ∀ {p q : List Rat} {m n : Nat}, HD p m → HD q n → (qmul p q).getD (m + n) 0 = p.getD m 0 * q.getD n 0
  | [], q, m, n, h, _ => absurd (by simp) h.1
  | a :: p, q, 0, n, h, h' => by
    have h1 : ∀ k, p.getD k 0 = 0 := fun k => by have := h.2 (k + 1) (by omega); rwa [List.getD_cons_succ] at this
    simp only [qmul]
    rw [getD_qadd, getD_qsc, List.getD_cons_zero, Nat.zero_add]
    cases n with
    | zero => rw [List.getD_cons_zero]; grind
    | succ n => rw [List.getD_cons_succ, hd_zero_mul h1]; grind
  | a :: p, q, m + 1, n, h, h' => by
    have ih := top_mul (p := p) (q := q) (m := m) ⟨by have := h.1; rwa [List.getD_cons_succ] at this, fun k hk => by have := h.2 (k + 1) (by omega); rwa [List.getD_cons_succ] at this⟩ h'
    simp only [qmul]
    rw [getD_qadd, getD_qsc, show m + 1 + n = (m + n) + 1 by omega, List.getD_cons_succ, h'.2 _ (by omega), ih, List.getD_cons_succ]; grind
theorem lead_mul {a b c : List Int} (ta : Trim a) (tb : Trim b) (tc : Trim c) (h : ∀ t, pev c t = pev a t * pev b t) (la : 0 < a.length) (lb : 0 < b.length) : lead c = lead a * lead b := by
  have h1 := hd_cz ta la
  have h2 := hd_cz tb lb
  have h3 := top_mul h1 h2
  have hl := len_mul ta tb tc h la lb
  rw [← getD_ev (p := cz c) (fun t => by rw [ev_qmul, ev_cz, ev_cz, ev_cz, h]), getD_cz, getD_cz, getD_cz, show a.length - 1 + (b.length - 1) = c.length - 1 by omega] at h3
  unfold lead; exact_mod_cast h3
theorem pos_of_mul {a b c : List Int} (tc : Trim c) (hc : c.length ≠ 0) (h : ∀ t, pev c t = pev a t * pev b t) : 0 < a.length ∧ 0 < b.length := by
  constructor
  · rcases Nat.eq_zero_or_pos a.length with e | e
    · exact absurd (fun t => by rw [h, nil_pev e]; grind) (cz_nz tc (by omega))
    · exact e
  · rcases Nat.eq_zero_or_pos b.length with e | e
    · exact absurd (fun t => by rw [h, nil_pev e]; grind) (cz_nz tc (by omega))
    · exact e
theorem pexk_ok {b : List Int} (tb : Trim b) (hb : b.length ≠ 0) : ∀ (i : Nat) (a q h : List Int), Trim a → Trim h → (∀ t, pev a t = pev b t * pev h t) → a.length < b.length + i → i ≤ q.length → (∀ j, j < i → q.getD j 0 = 0) → ∃ q', pexk b i a q = some q' ∧ q'.length = q.length ∧ ∀ t, pev q' t = pev q t + pev h t
  | 0, a, q, h, ta, th, e, hl, _, _ => by
    have ha : a.length = 0 := by
      rcases Nat.eq_zero_or_pos a.length with e' | e'
      · exact e'
      · obtain ⟨p1, p2⟩ := pos_of_mul ta (by omega) e
        have := len_mul tb th ta e p1 p2; omega
    refine ⟨q, by simp only [pexk]; rw [if_pos ha], rfl, fun t => ?_⟩
    have : ∀ t, pev h t = 0 := fun t => by
      have := cancel (p := cz b) (q := cz h) (r := []) (fun h0 => cz_nz tb (by omega) fun t => by rw [← ev_cz]; exact h0 t) (fun t => by rw [ev_cz, ev_cz, ← e, nil_pev ha]; simp only [ev]; grind) t
      rwa [ev_cz] at this
    rw [this]; grind
  | i + 1, a, q, h, ta, th, e, hl, hq, h0 => by
    simp only [pexk]
    by_cases hlt : a.length < b.length + i
    · rw [if_pos hlt]
      exact pexk_ok tb hb i a q h ta th e hlt (by omega) fun j hj => h0 j (by omega)
    · rw [if_neg hlt]
      obtain ⟨p1, p2⟩ := pos_of_mul ta (by omega) e
      have hln := len_mul tb th ta e p1 p2
      have hld := lead_mul tb th ta e p1 p2
      have hlb := lead_ne tb hb
      rw [hld, if_pos (Int.mul_emod_right _ _), Int.mul_ediv_cancel_left _ hlb]
      have hli : h.length = i + 1 := by omega
      have e2 : ∀ t, pev (psub a (pmul (trim (mono i (lead h))) b)) t = pev b t * pev (psub h (mono i (lead h))) t := fun t => by
        rw [pev_psub, pev_psub, pev_pmul, pev_trim, e]; grind
      have hl2 : (psub a (pmul (trim (mono i (lead h))) b)).length < b.length + i := by
        have hl := len_sta (i := i) (x := lead h) (b := b) (a := a)
        unfold sta at hl
        have := len_lt (p := psub a (pmul (trim (mono i (lead h))) b)) (n := b.length + i - 1) (each_trim _ _) (by omega) (by
          rw [psub_getD, mb_getD, if_pos (by omega), show b.length + i - 1 - i = b.length - 1 by omega, show b.length + i - 1 = a.length - 1 by omega]
          have : lead a = a.getD (a.length - 1) 0 := rfl
          rw [← this, hld]
          unfold lead
          rw [Int.mul_comm, Int.sub_eq_zero])
        omega
      obtain ⟨q', h1, h2, h3⟩ := pexk_ok tb hb i _ (q.set i (lead h)) (psub h (mono i (lead h))) (each_trim _ _) (each_trim _ _) e2 hl2 (by simp; omega) fun j hj => by
        rw [List.getD_eq_getElem?_getD, List.getElem?_set, if_neg (by omega), ← List.getD_eq_getElem?_getD]
        exact h0 j (by omega)
      refine ⟨q', h1, by rw [h2, List.length_set], fun t => ?_⟩
      rw [h3, pev_set q i _ t (by omega), h0 i (by omega), pev_psub, pev_mono]
      push_cast; grind
theorem quo_ok {a b h : List Int} {s : Nat} (ta : Trim a) (tb : Trim b) (th : Trim h) (ha : a.length ≠ 0) (la : a.length ≤ 10) (ba : Bd s a) (hs : s + 69 ≤ 16777216) (e : ∀ t, pev a t = pev b t * pev h t) : pquo a b = some h := by
  obtain ⟨p1, p2⟩ := pos_of_mul ta ha e
  have hln := len_mul tb th ta e p1 p2
  obtain ⟨q, h1, h2, h3⟩ := pexk_ok tb (by omega) (a.length + 1 - b.length) a (List.replicate (a.length + 1 - b.length) 0) h ta th e (by omega) (by simp) fun j _ => getD_replicate _ _
  have h4 : trim q = h := pev_inj (trim_trim _) th fun t => by rw [pev_trim, h3, pev_zeros]; grind
  unfold pquo
  rw [if_neg (by omega), h1]
  show chk (trim q) = _
  rw [h4]
  exact chk_some (by omega) (bd_mono (fac_bd ba la ta th tb ha fun t => by rw [e]; grind) (by omega))
end Orq

namespace Orq
open Orr Go
/-- p has content 1, and a leading coefficient above 0 -/
structure Pr1 (p : List Int) : Prop where
  t : Trim p
  m : Prm p
  l : 0 < lead p
theorem Pr1.n {p : List Int} (h : Pr1 p) : p.length ≠ 0 := fun e => by
  have := h.l
  rw [List.eq_nil_of_length_eq_zero e] at this
  exact absurd this (by decide)
theorem Pr1.one {p : List Int} (h : Pr1 p) (hl : p.length < 2) : p = [1] := by
  have hn := h.n
  obtain ⟨c, rfl⟩ : ∃ c, p = [c] := List.length_eq_one_iff.1 (by omega)
  have h1 := h.m c fun k => by cases k <;> simp
  have h2 : 0 < c := h.l
  have := Int.le_of_dvd (by decide) h1
  rw [show c = 1 by omega]
/-- a factor of a polynomial of content 1 has content 1 -/
theorem prm_fac {p g h : List Int} (hp : Prm p) (e : ∀ t, pev p t = pev g t * pev h t) : Prm h := fun d hd => by
  refine hp d fun k => ?_
  have := pev_coef (p := p) (q := pmul g h) (fun t => by rw [e, pev_pmul]) k
  rw [this]
  have e2 : ∀ t, pev (pmul g h) t = (d : Rat) * pev (pmul g (h.map (· / d))) t := fun t => by
    have h1 : pev h t = (d : Rat) * pev (h.map (· / d)) t := by
      have := pev_lin d 0 t (max h.length (h.map (· / d)).length) (h.map (· / d)) [] h (by omega) (by simp) (by omega) fun k => by
        rw [getD_map_div, Int.mul_ediv_cancel' (hd k)]; simp
      rw [this]; simp only [pev]; push_cast; grind
    rw [pev_pmul, pev_pmul, h1]; grind
  have := pev_coef (p := pmul g h) (q := pscale (pmul g (h.map (· / d))) d) (fun t => by rw [e2, pev_pscale]; grind) k
  rw [this, pscale_getD]; exact Int.dvd_mul_left _ _
theorem pr1_fac {p g h : List Int} (hp : Pr1 p) (hg : 0 < lead g) (tg : Trim g) (th : Trim h) (e : ∀ t, pev p t = pev g t * pev h t) : Pr1 h := by
  obtain ⟨p1, p2⟩ := pos_of_mul hp.t hp.n e
  have := lead_mul tg th hp.t e p1 p2
  refine ⟨th, prm_fac hp.m e, ?_⟩
  have hl := hp.l
  rw [this] at hl
  rcases Int.lt_trichotomy (lead h) 0 with h1 | h1 | h1
  · have := Int.mul_neg_of_pos_of_neg hg h1; omega
  · rw [h1] at hl; omega
  · exact h1
/-- q is the part of p without multiple roots: p = g q, g the common divisor of p and its derivative -/
structure Sqp (p g q : List Int) : Prop where
  pp : Pr1 p
  pg : Pr1 g
  pq : Pr1 q
  e : ∀ t, pev p t = pev g t * pev q t
  c : ∃ U V, ∀ t, pev g t = ev U t * pev p t + ev V t * dv (cz p) t
  d : ∃ z, ∀ t, dv (cz p) t = pev g t * ev z t
/-- what divides q and its derivative is a number -/
theorem Sqp.num {p g q : List Int} (h : Sqp p g q) {d : List Rat} (h1 : Dvd d (cz q)) (h2 : Dvd d (qder (cz q))) : ∃ c : Rat, c ≠ 0 ∧ ∀ t, ev d t = c := by
  obtain ⟨U, V, hc⟩ := h.c
  have hpow := sqf (k := 1) (a := cz p) (g := cz g) (q := cz q) (d := d) (U := U) (V := V) (by decide) (fun t => by rw [ev_cz, ev_cz, ev_cz, h.e]) (fun t => by rw [ev_cz, ev_cz, hc]; grind) h1 h2
  rcases hd_ex d with h3 | ⟨m, _, h3⟩
  · obtain ⟨u, hu⟩ := h1
    exact absurd (fun t => by rw [← ev_cz, hu, h3]; grind) (cz_nz h.pq.t (by have := h.pq.n; omega))
  · obtain rfl := pow_const h3 (hd_cz h.pg.t (by have := h.pg.n; omega)) hpow
    refine ⟨d.getD 0 0, h3.1, fun t => ?_⟩
    cases d with
    | nil => exact absurd (by simp) h3.1
    | cons c l =>
      have := ev_getD0 (p := l) fun k => by have := h3.2 (k + 1) (by omega); rwa [List.getD_cons_succ] at this
      simp only [ev, this, List.getD_cons_zero]; grind
theorem Sqp.bez {p g q : List Int} (h : Sqp p g q) : ∃ X Y, ∀ t, ev X t * ev (cz q) t + ev Y t * dv (cz q) t = 1 := by
  obtain ⟨d, U, V, h1, h2, h3⟩ := gcd_of (cz q) (qder (cz q))
  obtain ⟨c, hc, hd⟩ := h.num h1 h2
  refine ⟨qsc (1 / c) U, qsc (1 / c) V, fun t => ?_⟩
  have h5 := h3 t
  rw [hd, ev_qder] at h5
  have h4 : 1 / c * c = 1 := Rat.div_mul_cancel hc
  rw [ev_qsc, ev_qsc]
  have : 1 / c * ev U t * ev (cz q) t + 1 / c * ev V t * dv (cz q) t = 1 / c * (ev U t * ev (cz q) t + ev V t * dv (cz q) t) := by grind
  rw [this, ← h5, h4]
theorem szz_s {n s : Nat} (h : Szz n s) : s ≤ 8388600 := by
  have : 2 * (s + 8) * 1 ≤ 2 * (s + 8) * 3 ^ (n - 1) := Nat.mul_le_mul_left _ (Nat.pow_pos (by decide))
  have := h.2; omega
theorem bd_der {s : Nat} {p : List Int} (h : Bd s p) (hl : p.length ≤ 10) : Bd (s + 4) (pder p) := bd_pder h (t := 4) (by omega)
/-- the common divisor with the derivative, and the rest -/
theorem sq_step {n s : Nat} (hz : Szz n (s + 73)) {p : List Int} (pp : Pr1 p) (l2 : 2 ≤ p.length) (lp : p.length ≤ n) (bp : Bd (s + 69) p) {p0 h0 : List Int} (b0 : Bd s p0) (l0 : p0.length ≤ 10) (t0 : Trim p0) (th0 : Trim h0) (z0 : p0.length ≠ 0) (e0 : ∀ t, pev p0 t = pev h0 t * pev p t) :
    ∃ g q, chk (pder p) = some (pder p) ∧ ptwo p (pder p) = some g ∧ pquo p g = some q ∧ Sqp p g q ∧ g.length < p.length := by
  have hn := hz.1
  have hs := szz_s hz
  have bd := bd_der bp (by omega)
  have ld := len_pder p
  have td : Trim (pder p) := each_trim _ _
  obtain ⟨g, e1, hg, m, l⟩ := two_ok hz pp.t td lp (by omega) (bd_mono bp (by omega)) bd (.inl pp.n)
  obtain ⟨q, tq, eq⟩ := gauss m hg.da
  have hdnz : (pder p).length ≠ 0 := fun h => by
    have h1 := pder_getD p (p.length - 2)
    rw [List.eq_nil_of_length_eq_zero h, show p.length - 2 + 1 = p.length - 1 by omega] at h1
    have h2 : p.getD (p.length - 1) 0 ≠ 0 := trim_zero pp.t (by omega)
    rcases Int.mul_eq_zero.1 (h1.symm.trans (by simp)) with h3 | h3
    · exact h2 h3
    · omega
  have pg : Pr1 g := ⟨hg.t, m, l⟩
  have hql := quo_ok (s := s + 69) pp.t hg.t tq pp.n (by omega) bp (by omega) eq
  refine ⟨g, q, chk_some (by omega) (bd_mono bd (by omega)), e1, hql, ⟨pp, pg, pr1_fac pp l hg.t tq eq, eq, ?_, ?_⟩, ?_⟩
  · obtain ⟨U, V, hc⟩ := hg.c
    exact ⟨U, V, fun t => by rw [hc, pev_pder]⟩
  · obtain ⟨z, hz⟩ := hg.db
    exact ⟨z, fun t => by rw [← pev_pder, ← ev_cz, hz, ev_cz]⟩
  · obtain ⟨z, tz, ez⟩ := gauss m hg.db
    obtain ⟨q1, q2⟩ := pos_of_mul td hdnz ez
    have := len_mul hg.t tz td ez q1 q2
    omega
theorem one_sqp : Sqp [1] [1] [1] := by
  have p1 : Pr1 [1] := ⟨rfl, fun d hd => by have := hd 0; rwa [List.getD_cons_zero] at this, by decide⟩
  have e1 : ∀ t, pev [1] t = 1 := fun t => by simp only [pev]; push_cast; grind
  exact ⟨p1, p1, p1, fun t => by rw [e1]; grind, ⟨[1], [], fun t => by rw [e1, ev_one]; simp only [ev]; grind⟩, ⟨[], fun t => by simp only [cz, List.map_cons, List.map_nil, dv, ev]; grind⟩⟩
/-- what is asked of a polynomial ahead of all -/
structure Okp (n s : Nat) (p : List Int) : Prop where
  z : Szz n (s + 73)
  t : Trim p
  nz : p.length ≠ 0
  l : p.length ≤ n
  b : Bd s p
theorem Okp.pr {n s : Nat} {p : List Int} (h : Okp n s p) : Pr1 (prime p) ∧ (prime p).length = p.length ∧ Bd s (prime p) := by
  obtain ⟨h1, h2, h3, h4, h5, _⟩ := prime_ok h.t h.nz
  exact ⟨⟨h1, h3, h4⟩, h2, h5 s h.b⟩
theorem square_ok {n s : Nat} {p : List Int} (h : Okp n s p) : ∃ g q, psquare p = some q ∧ Sqp (prime p) g q := by
  obtain ⟨pp, hl, hb⟩ := h.pr
  have hn := h.z.1
  have := h.l
  unfold psquare
  by_cases h2 : (prime p).length < 2
  · rw [if_pos h2, pp.one h2]; exact ⟨[1], [1], rfl, one_sqp⟩
  · rw [if_neg h2]
    obtain ⟨g, q, h3, h4, h5, h6, _⟩ := sq_step h.z pp (by omega) (by omega) (bd_mono hb (by omega)) (p0 := prime p) (h0 := [1]) hb (by omega) pp.t rfl pp.n fun t => by simp only [pev]; push_cast; grind
    exact ⟨g, q, by rw [h3]; show (ptwo (prime p) (pder (prime p))).bind _ = _; rw [h4]; exact h5, h6⟩
/-! ### layers -/
inductive LW : List Int → List (List Int) → Prop
  | nil : LW [1] []
  | cons {g h w : List Int} {ws : List (List Int)} (hs : Sqp g h w) (hl : LW h ws) : LW g (w :: ws)
theorem lw_all {g : List Int} {ws : List (List Int)} (h : LW g ws) : ∀ t, pev g t = ev (pall (ws.map cz)) t := by
  induction h with
  | nil => intro t; simp only [List.map_nil, pall, pev]; rw [ev_one]; push_cast; grind
  | cons hs hl ih => intro t; simp only [List.map_cons, pall]; rw [ev_qmul, ev_cz, hs.e, ih]; grind
/-- each layer divides the one ahead of it -/
theorem lw_next {g : List Int} {w v : List Int} {ws : List (List Int)} (h : LW g (w :: v :: ws)) : ∃ f, Trim f ∧ ∀ t, pev w t = pev f t * pev v t := by
  cases h with
  | @cons _ h _ _ hs hl =>
    cases hl with
    | @cons _ h2 _ _ hs2 hl2 =>
      obtain ⟨X, Y, hb⟩ := hs2.bez
      obtain ⟨z, hz⟩ := hs.d
      have hd := sqf_dvd (a := cz g) (g := cz h) (q := cz w) (z := z) (r := cz v) (X := X) (Y := Y) (n := h.length - 1) (fun t => by rw [ev_cz, ev_cz, ev_cz, hs.e]) (fun t => by rw [hz, ev_cz]) (hd_cz hs.pg.t (by have := hs.pg.n; omega)) hb
        ⟨qmul (cz h2) (cz w), fun t => by rw [ev_qmul, ev_cz, ev_cz, ev_cz, ev_cz, hs.e, hs2.e]; grind⟩
      obtain ⟨f, tf, ef⟩ := gauss hs2.pq.m hd
      exact ⟨f, tf, fun t => by rw [ef]; grind⟩
theorem lw_first {g w : List Int} {ws : List (List Int)} (h : LW g (w :: ws)) : ∀ v ∈ w :: ws, Pr1 v ∧ Dvd (cz v) (cz w) := by
  have key : ∀ (ws : List (List Int)) (g w : List Int), LW g (w :: ws) → ∀ v ∈ w :: ws, Pr1 v ∧ Dvd (cz v) (cz w) := by
    intro ws
    induction ws with
    | nil =>
      intro g w h v hv
      rw [List.mem_singleton.1 hv]
      cases h with
      | cons hs hl => exact ⟨hs.pq, dvd_refl _⟩
    | cons u ws ih =>
      intro g w h v hv
      have hn := lw_next h
      cases h with
      | @cons _ h _ _ hs hl =>
        rcases List.mem_cons.1 hv with rfl | hv
        · exact ⟨hs.pq, dvd_refl _⟩
        · obtain ⟨i1, i2⟩ := ih h u hl v hv
          obtain ⟨f, _, hf⟩ := hn
          exact ⟨i1, dvd_trans i2 ⟨cz f, fun t => by rw [ev_cz, ev_cz, ev_cz, hf]; grind⟩⟩
  exact key ws g w h
theorem lay_ok {n s : Nat} (hz : Szz n (s + 73)) {p0 : List Int} (b0 : Bd s p0) (l0 : p0.length ≤ 10) (t0 : Trim p0) (z0 : p0.length ≠ 0) : ∀ (k : Nat) (g h0 : List Int), Pr1 g → g.length ≤ k → g.length ≤ n → Trim h0 → (∀ t, pev p0 t = pev h0 t * pev g t) → ∃ ws, layF k g = some ws ∧ LW g ws
  | 0, g, _, pg, hk, _, _, _ => absurd pg.n (by omega)
  | k + 1, g, h0, pg, hk, hn, th0, e0 => by
    simp only [layF]
    by_cases h2 : g.length < 2
    · rw [if_pos h2, pg.one h2]; exact ⟨[], rfl, .nil⟩
    · rw [if_neg h2]
      have bg : Bd (s + 69) g := fac_bd b0 l0 t0 pg.t th0 z0 fun t => by rw [e0]; grind
      obtain ⟨h, w, h3, h4, h5, h6, h7⟩ := sq_step hz pg (by omega) hn bg b0 l0 t0 th0 z0 e0
      obtain ⟨ws, i1, i2⟩ := lay_ok hz b0 l0 t0 z0 k h (pmul h0 w) h6.pg (by omega) (by omega) (trim_pmul _ _) fun t => by rw [e0, pev_pmul, h6.e]; grind
      refine ⟨w :: ws, ?_, .cons h6 i2⟩
      rw [h3]
      show (ptwo g (pder g)).bind _ = _
      rw [h4]
      show (pquo g h).bind _ = _
      rw [h5]
      show (layF k h).bind _ = _
      rw [i1]; rfl
theorem fac_ok {s : Nat} {p0 : List Int} (b0 : Bd s p0) (l0 : p0.length ≤ 10) (t0 : Trim p0) (z0 : p0.length ≠ 0) (hs : s + 69 + 69 ≤ 16777216) : ∀ (ws : List (List Int)) (g h0 : List Int), LW g ws → Trim h0 → (∀ t, pev p0 t = pev h0 t * pev g t) → ∃ fs, facL ws = some fs ∧ Lay (ws.map cz) (fs.map cz) ∧ ∀ f ∈ fs, Trim f
  | [], g, _, _, _, _ => ⟨[], rfl, trivial, fun f hf => by cases hf⟩
  | [w], g, _, hl, _, _ => by
    cases hl with
    | cons hs hl => exact ⟨[w], rfl, fun t => rfl, fun f hf => by rw [List.mem_singleton.1 hf]; exact hs.pq.t⟩
  | w :: v :: ws, g, h0, hl, th0, e0 => by
    obtain ⟨f, tf, ef⟩ := lw_next hl
    cases hl with
    | @cons _ h _ _ hs1 hl =>
      have hpv := (lw_first hl v (List.mem_cons_self ..)).1
      obtain ⟨fs, i1, i2, i3⟩ := fac_ok b0 l0 t0 z0 hs (v :: ws) h (pmul h0 w) hl (trim_pmul _ _) fun t => by rw [e0, pev_pmul, hs1.e]; grind
      have ew : ∀ t, pev p0 t = pev w t * pev (pmul h0 h) t := fun t => by rw [e0, pev_pmul, hs1.e]; grind
      have bw : Bd (s + 69) w := fac_bd b0 l0 t0 hs1.pq.t (trim_pmul _ _) z0 ew
      obtain ⟨p1, p2⟩ := pos_of_mul t0 z0 ew
      have lw := len_mul hs1.pq.t (trim_pmul _ _) t0 ew p1 p2
      have hq := quo_ok (s := s + 69) hs1.pq.t hpv.t tf hs1.pq.n (by omega) bw hs fun t => by rw [ef]; grind
      refine ⟨f :: fs, ?_, ⟨fun t => by rw [ev_cz, ev_cz, ev_cz, ef], i2⟩, fun x hx => ?_⟩
      · show (pquo w v).bind _ = _
        rw [hq]
        show (facL (v :: ws)).bind _ = _
        rw [i1]; rfl
      · rcases List.mem_cons.1 hx with rfl | hx
        · exact tf
        · exact i3 x hx
def oddsZ : List (List Int) → List Int
  | [] => [1]
  | [f] => f
  | f :: _ :: l => pmul f (oddsZ l)
theorem oddsZ_ev : ∀ (fs : List (List Int)) (t : Rat), ev (odds (fs.map cz)) t = pev (oddsZ fs) t
  | [], t => by simp only [List.map_nil, odds, oddsZ, pev]; rw [ev_one]; push_cast; grind
  | [f], t => by simp only [List.map_cons, List.map_nil, odds, oddsZ]; rw [ev_cz]
  | f :: g :: l, t => by simp only [List.map_cons, odds, oddsZ]; rw [ev_qmul, ev_cz, pev_pmul, oddsZ_ev l]
theorem pev_one (t : Rat) : pev [1] t = 1 := by simp only [pev]; push_cast; grind
/-- the first layer: what stands an odd number of times, and the rest -/
theorem first_odd : ∀ {w : List Int} {ws fs : List (List Int)}, Lay ((w :: ws).map cz) (fs.map cz) → (∀ f ∈ fs, Trim f) → (∀ v ∈ w :: ws, Trim v) → ∃ E, Trim E ∧ ∀ t, pev w t = pev (oddsZ fs) t * pev E t
  | w, [], [f], h, _, _ => ⟨[1], rfl, fun t => by
    have := h t
    rw [ev_cz, ev_cz] at this
    rw [this, pev_one]; simp only [oddsZ]; grind⟩
  | w, [v], [f, f2], h, _, hw => ⟨v, hw v (by simp), fun t => by
    have := h.1 t
    rw [ev_cz, ev_cz, ev_cz] at this
    rw [this]; simp only [oddsZ]; rw [pev_pmul, pev_one]; grind⟩
  | w, v :: x :: l, f :: f2 :: fs, h, hf, hw => by
    obtain ⟨E, hE, e⟩ := first_odd (w := x) (ws := l) (fs := fs) h.2.2 (fun g hg => hf g (by simp [hg])) (fun g hg => hw g (by simp at hg ⊢; exact .inr (.inr hg)))
    refine ⟨pmul f2 E, trim_pmul _ _, fun t => ?_⟩
    have a1 := h.1 t
    have a2 := h.2.1 t
    rw [ev_cz, ev_cz, ev_cz] at a1 a2
    have e2 : pev (oddsZ (f :: f2 :: fs)) t = pev f t * pev (oddsZ fs) t := by simp only [oddsZ]; rw [pev_pmul]
    rw [a1, a2, e, e2, pev_pmul]; grind
  | w, [], [], h, _, _ => h.elim
  | w, [], _ :: _ :: _, h, _, _ => h.elim
  | w, [v], [], h, _, _ => h.elim
  | w, [v], [f], h, _, _ => h.2.elim
  | w, [v], _ :: _ :: _ :: _, h, _, _ => h.2.elim
  | w, v :: x :: l, [f], h, _, _ => h.2.elim
  | w, v :: x :: l, [], h, _, _ => h.elim
theorem oddF_ok {s : Nat} {p0 : List Int} (b0 : Bd s p0) (l0 : p0.length ≤ 10) (t0 : Trim p0) (z0 : p0.length ≠ 0) (hs : s + 69 ≤ 16777216) : ∀ (fs : List (List Int)) (i : Nat) (a E : List Int), i % 2 = 0 → Trim a → Trim E → (∀ f ∈ fs, Trim f) → (∀ t, pev p0 t = pev a t * pev (oddsZ fs) t * pev E t) → ∃ o, oddF i a fs = some o ∧ Trim o ∧ ∀ t, pev o t = pev a t * pev (oddsZ fs) t
  | [], i, a, E, hi, ta, _, _, _ => ⟨a, rfl, ta, fun t => by simp only [oddsZ]; rw [pev_one]; grind⟩
  | [f], i, a, E, hi, ta, tE, tf, hE => by
    have e1 : ∀ t, pev p0 t = pev (pmul a f) t * pev E t := fun t => by rw [hE, pev_pmul]; rfl
    have b1 := fac_bd b0 l0 t0 (trim_pmul a f) tE z0 e1
    obtain ⟨p1, p2⟩ := pos_of_mul t0 z0 e1
    have hl := len_mul (trim_pmul a f) tE t0 e1 p1 p2
    refine ⟨pmul a f, ?_, trim_pmul _ _, fun t => by rw [pev_pmul]; rfl⟩
    simp only [oddF]
    rw [if_pos hi, chk_some (by omega) (bd_mono b1 (by omega))]; rfl
  | f :: g :: fs, i, a, E, hi, ta, tE, tf, hE => by
    have e0 : ∀ t, pev (oddsZ (f :: g :: fs)) t = pev f t * pev (oddsZ fs) t := fun t => by simp only [oddsZ]; rw [pev_pmul]
    have e1 : ∀ t, pev p0 t = pev (pmul a f) t * pev (pmul (oddsZ fs) E) t := fun t => by rw [hE, e0, pev_pmul, pev_pmul]; grind
    have b1 := fac_bd b0 l0 t0 (trim_pmul a f) (trim_pmul _ _) z0 e1
    obtain ⟨p1, p2⟩ := pos_of_mul t0 z0 e1
    have hl := len_mul (trim_pmul a f) (trim_pmul _ _) t0 e1 p1 p2
    obtain ⟨o, o1, o2, o3⟩ := oddF_ok b0 l0 t0 z0 hs fs (i + 2) (pmul a f) E (by omega) (trim_pmul _ _) tE (fun x hx => tf x (by simp [hx])) fun t => by rw [hE, e0, pev_pmul]; grind
    refine ⟨o, ?_, o2, fun t => by rw [o3, e0, pev_pmul]; grind⟩
    have h1 : oddF (i + 1) (pmul a f) (g :: fs) = oddF (i + 2) (pmul a f) fs := by
      show (if (i + 1) % 2 = 0 then _ else _) = _
      rw [if_neg (by omega)]
    show (if i % 2 = 0 then (chk (pmul a f)).bind fun q => oddF (i + 1) q (g :: fs) else _) = _
    rw [if_pos hi, chk_some (by omega) (bd_mono b1 (by omega))]
    exact h1.trans o1
/-- p is a number times a product of divisors of q, which has no multiple roots; what stands an odd number of times divides q too -/
structure Parts (p q o : List Int) : Prop where
  sq : ∃ g, Sqp (prime p) g q
  ws : ∃ ws : List (List Int), (∀ w ∈ ws, Pr1 w ∧ Dvd (cz w) (cz q)) ∧ ∀ t, pev (prime p) t = ev (pall (ws.map cz)) t
  oq : Dvd (cz o) (cz q)
  ot : Trim o
  oh : ∃ h, Trim h ∧ ∀ t, pev (prime p) t = pev o t * pev h t
  os : ∃ S, ∀ t, pev (prime p) t = pev o t * (ev S t * ev S t)
theorem odd_ok {n s : Nat} {p : List Int} (h : Okp n s p) : ∃ q o, psquare p = some q ∧ podd p = some o ∧ Parts p q o := by
  obtain ⟨pp, hl, hb⟩ := h.pr
  have hn := h.z.1
  have hpl := h.l
  have hs := szz_s h.z
  obtain ⟨g, q, hq, sq⟩ := square_ok h
  obtain ⟨ws, w1, w2⟩ := lay_ok h.z hb (by omega) pp.t pp.n 66 (prime p) [1] pp (by omega) (by omega) rfl fun t => by rw [pev_one]; grind
  obtain ⟨fs, f1, f2, f3⟩ := fac_ok hb (by omega) pp.t pp.n (by omega) ws (prime p) [1] w2 rfl fun t => by rw [pev_one]; grind
  have hw := lw_all w2
  -- the first layer is q
  have hfirst : (∀ w ∈ ws, Pr1 w ∧ Dvd (cz w) (cz q)) ∧ ∃ E, Trim E ∧ ∀ t, pev q t = pev (oddsZ fs) t * pev E t := by
    cases ws with
    | nil =>
      have e : fs = [] := by
        cases fs with
        | nil => rfl
        | cons f l => exact f2.elim
      subst e
      exact ⟨(fun w hw => by cases hw), q, sq.pq.t, fun t => by simp only [oddsZ]; rw [pev_one]; grind⟩
    | cons w ws =>
      have hwq : w = q := by
        have w3 : (if (prime p).length < 2 then some [] else (chk (pder (prime p))).bind fun d => (ptwo (prime p) d).bind fun h => (pquo (prime p) h).bind fun w => (layF 65 h).bind fun l => some (w :: l)) = some (w :: ws) := w1
        have hlen : ¬ (prime p).length < 2 := fun h2 => by
          rw [if_pos h2] at w3
          injection w3 with w3
          cases w3
        rw [if_neg hlen] at w3
        unfold psquare at hq
        rw [if_neg hlen] at hq
        obtain ⟨d, d1, w3⟩ := Option.bind_eq_some_iff.1 w3
        obtain ⟨h, d2, w3⟩ := Option.bind_eq_some_iff.1 w3
        obtain ⟨w', d3, w3⟩ := Option.bind_eq_some_iff.1 w3
        obtain ⟨l, d4, w3⟩ := Option.bind_eq_some_iff.1 w3
        rw [d1] at hq
        have hq : (ptwo (prime p) d).bind (fun g => pquo (prime p) g) = some q := hq
        rw [d2] at hq
        have hq : pquo (prime p) h = some q := hq
        rw [d3] at hq
        injection hq with hq
        injection w3 with w3
        injection w3 with w3 _
        rw [← w3, hq]
      subst hwq
      have hall := lw_first w2
      exact ⟨hall, first_odd f2 f3 fun v hv => (hall v hv).1.t⟩
  obtain ⟨ha, E, tE, hE⟩ := hfirst
  obtain ⟨o, o1, o2, o3⟩ := oddF_ok hb (by omega) pp.t pp.n (by omega) fs 0 [1] (pmul E g) rfl rfl (trim_pmul _ _) f3 fun t => by rw [pev_one, pev_pmul, sq.e, hE]; grind
  have o3 : ∀ t, pev o t = pev (oddsZ fs) t := fun t => by rw [o3, pev_one]; grind
  refine ⟨q, o, hq, ?_, ⟨g, sq⟩, ⟨ws, ha, hw⟩, ⟨cz E, fun t => by rw [ev_cz, ev_cz, ev_cz, hE, o3]⟩, o2, ⟨pmul E g, trim_pmul _ _, fun t => by rw [sq.e, hE, o3, pev_pmul]; grind⟩, ?_⟩
  · unfold podd
    rw [if_neg pp.n, w1]
    show (facL ws).bind _ = _
    rw [f1]; exact o1
  · obtain ⟨S, hS⟩ := lay_odd f2
    exact ⟨S, fun t => by rw [hw, hS, oddsZ_ev, o3]⟩
/-! ### Sturm's chains -/
theorem chF_scl {s : Nat} : ∀ (k : Nat) (a b : List Int), Trim a → Trim b → b.length ≠ 0 → b.length < k → b.length < a.length → a.length ≤ 60 → Bd s a → Bd s b → (s + 8) * 3 ^ (a.length - 1) ≤ 16777216 → (∀ d, Dvd d (cz a) → Dvd d (cz b) → ∃ c : Rat, c ≠ 0 ∧ ∀ t, ev d t = c) → ∃ l, chF k a b = some (b :: l) ∧ SCl (cz a) (cz b) (l.map cz)
  | 0, _, _, _, _, _, h, _, _, _, _, _, _ => by omega
  | k + 1, a, b, ta, tb, hb, hk, hab, hl, ba, bb, hs, hd => by
    obtain ⟨h1, h2, h3, u, v, up, vp, X, hX⟩ := rest_ok ta tb hb hl
    have h3 := h3 s ba bb
    obtain ⟨m, hm⟩ : ∃ m, m = a.length - b.length := ⟨_, rfl⟩
    have e1 : a.length + 1 - b.length = m + 1 := by omega
    rw [e1] at h3
    have e2 : s + (m + 1) * (s + 8) + 8 = (m + 2) * (s + 8) := by
      rw [show m + 2 = (m + 1) + 1 by omega, Nat.succ_mul (m + 1)]; omega
    have e3 : (m + 2) * (s + 8) * 3 ^ (b.length - 1) ≤ (s + 8) * 3 ^ (a.length - 1) := by
      rw [show a.length - 1 = m + (b.length - 1) by omega, Nat.pow_add, ← Nat.mul_assoc, Nat.mul_comm (s + 8)]
      exact Nat.mul_le_mul_right _ (Nat.mul_le_mul_right _ (pow3 m (by omega)))
    have e4 : s + (m + 1) * (s + 8) ≤ 16777216 := by
      have : (m + 2) * (s + 8) ≤ (m + 2) * (s + 8) * 3 ^ (b.length - 1) := Nat.le_mul_of_pos_right _ (Nat.pow_pos (by decide))
      omega
    simp only [chF]
    rw [if_neg hb, chk_some (by omega) (bd_mono h3 e4)]
    show ∃ l, ((chF k b (pneg (prest a b))).bind fun l => some (b :: l)) = some (b :: l) ∧ _
    have lneg : (pneg (prest a b)).length ≤ (prest a b).length := len_pneg _
    by_cases hr : (prest a b).length = 0
    · have e : pneg (prest a b) = [] := List.eq_nil_of_length_eq_zero (by omega)
      rw [e]
      refine ⟨[], ?_, ?_⟩
      · obtain ⟨j, rfl⟩ : ∃ j, k = j + 1 := ⟨k - 1, by omega⟩
        rfl
      · obtain ⟨c, hc, hcc⟩ := hd (cz b) ⟨qsc (1 / u) X, fun t => by
          have := hX t
          rw [nil_pev hr] at this
          have hu : 1 / u * u = 1 := div_mul up
          rw [ev_cz, ev_cz, ev_qsc]
          have : pev a t = 1 / u * (u * pev a t) := by grind
          rw [this, hX, nil_pev hr]; grind⟩ (dvd_refl _)
        exact .base hc hcc
    · have tn : Trim (pneg (prest a b)) := each_trim _ _
      have hn0 : (pneg (prest a b)).length ≠ 0 := fun h0 => by
        have := len_of_scale (c := -1) h1 tn (by decide) fun t => by rw [pev_pneg]; grind
        omega
      obtain ⟨l, i1, i2⟩ := chF_scl (s := s + (m + 1) * (s + 8)) k b (pneg (prest a b)) tb tn hn0 (by omega) (by omega) (by omega) (bd_mono bb (by omega)) (bd_pneg h3) (by rw [e2]; omega) fun d d1 d2 => by
        refine hd d ?_ d1
        obtain ⟨y, hy⟩ := d1
        obtain ⟨z, hz⟩ := d2
        have hu : 1 / u * u = 1 := div_mul up
        refine ⟨qsc (1 / u) (qadd (qmul X y) (qsc (-v) z)), fun t => ?_⟩
        have a1 := hX t; have a2 := hy t; have a3 := hz t
        rw [ev_cz] at a2 a3
        rw [pev_pneg] at a3
        rw [ev_cz, ev_qsc, ev_qadd, ev_qmul, ev_qsc]
        have : pev a t = 1 / u * (u * pev a t) := by grind
        rw [this, a1, a2, show pev (prest a b) t = -(ev d t * ev z t) by grind]; grind
      refine ⟨pneg (prest a b) :: l, by rw [i1]; rfl, ?_⟩
      rw [List.map_cons]
      exact .step (q := X) up vp (fun t => by rw [ev_cz, ev_cz, ev_cz, hX, pev_pneg]; clear i2 i1 hd h3 hs; grind) i2
theorem turns_fold (x : Rat) : ∀ (l : List (List Int)) (n : Nat) (s : Int), (l.foldl (turnF fun p => psign p x) (n, s)).1 = n + tc x s (l.map cz)
  | [], n, s => rfl
  | p :: l, n, s => by
    simp only [List.foldl_cons, List.map_cons, tc, turnF]
    rw [psign_ev, ev_cz]
    split
    · exact turns_fold x l n s
    · rw [turns_fold x l]
      split <;> omega
theorem turnsAt_vv (l : List (List Int)) (x : Rat) : turnsAt l x = vv (l.map cz) x := by
  have := turns_fold x l 0 0
  unfold turnsAt turns vv
  rw [this]; omega
/-- Sturm's chain -/
theorem chain_sq {n s : Nat} (hz : Szz n (s + 73)) {P g q : List Int} (sq : Sqp P g q) (lq : q.length ≤ n) (bq : Bd (s + 69) q) : ∃ d, chk (pder q) = some d ∧ ∃ l, chF 66 q (prime d) = some l ∧ Stm (cz q) ((q :: l).map cz) ∧ (q.length < 2 → l = []) := by
  have hn := hz.1
  have hs := szz_s hz
  have bd := bd_der bq (by omega)
  have ld := len_pder q
  refine ⟨pder q, chk_some (by omega) (bd_mono bd (by omega)), ?_⟩
  have hq0 := sq.pq.n
  by_cases h2 : q.length < 2
  · have e : prime (pder q) = [] := by rw [List.eq_nil_of_length_eq_zero (l := pder q) (by omega)]; rfl
    rw [e]
    refine ⟨[], rfl, .inl ⟨1, by decide, fun t => ?_, rfl⟩, fun _ => rfl⟩
    rw [ev_cz, sq.pq.one h2, pev_one]
  · have hdnz : (pder q).length ≠ 0 := fun h => by
      have h1 := pder_getD q (q.length - 2)
      rw [List.eq_nil_of_length_eq_zero h, show q.length - 2 + 1 = q.length - 1 by omega] at h1
      have h3 : q.getD (q.length - 1) 0 ≠ 0 := trim_zero sq.pq.t (by omega)
      rcases Int.mul_eq_zero.1 (h1.symm.trans (by simp)) with h4 | h4
      · exact h3 h4
      · omega
    obtain ⟨p1, p2, p3, p4, p5, p6, p7⟩ := prime_ok (p := pder q) (each_trim _ _) hdnz
    have hdl : lead (pder q) = lead q * ((q.length - 1 : Nat) : Int) := by
      have hld : (pder q).length = q.length - 1 := by
        rcases Nat.lt_or_ge (pder q).length (q.length - 1) with h | h
        · have h1 := pder_getD q (q.length - 2)
          rw [List.getD_eq_getElem?_getD, List.getElem?_eq_none (by omega), show q.length - 2 + 1 = q.length - 1 by omega] at h1
          have h3 : q.getD (q.length - 1) 0 ≠ 0 := trim_zero sq.pq.t (by omega)
          rcases Int.mul_eq_zero.1 (h1.symm.trans (by simp)) with h4 | h4
          · exact absurd h4 h3
          · omega
        · omega
      unfold lead
      rw [hld, pder_getD, show q.length - 1 - 1 + 1 = q.length - 1 by omega]
    have hfac : 0 < pfac (pder q) := by
      have hlp : 0 < lead (pder q) := by rw [hdl]; exact Int.mul_pos sq.pq.l (by omega)
      have hc := pcont_ne (p := pder q) (each_trim _ _) hdnz
      unfold pfac
      rw [if_neg (by omega)]
      unfold pcont at hc ⊢; omega
    have hfq : ((0 : Int) : Rat) < (pfac (pder q) : Rat) := Rat.intCast_lt_intCast.2 hfac
    have hfq : (0 : Rat) < (pfac (pder q) : Rat) := by simpa using hfq
    have hff : 1 / (pfac (pder q) : Rat) * (pfac (pder q) : Rat) = 1 := div_mul hfq
    have hz2 := hz.2
    have hp3 : (s + 73 + 8) * 3 ^ (q.length - 1) ≤ 16777216 := by
      have : (s + 73 + 8) * 3 ^ (q.length - 1) ≤ (s + 73 + 8) * 3 ^ (n - 1) := Nat.mul_le_mul_left _ (Nat.pow_le_pow_right (by decide) (by omega))
      rw [Nat.mul_assoc] at hz2; omega
    obtain ⟨l, h3, h4⟩ := chF_scl (s := s + 73) 66 q (prime (pder q)) sq.pq.t p1 (by omega) (by omega) (by omega) (by omega) (bd_mono bq (by omega)) (p5 _ bd) hp3 fun d d1 d2 => sq.num d1 (by
      obtain ⟨z, hz⟩ := d2
      exact ⟨qsc (pfac (pder q)) z, fun t => by
        have := hz t
        rw [ev_cz] at this
        rw [ev_qder, ← pev_pder, p7, this, ev_qsc]; grind⟩)
    refine ⟨prime (pder q) :: l, h3, .inr ⟨cz (prime (pder q)), l.map cz, 1 / (pfac (pder q) : Rat), div_po (by decide) hfq, fun t => ?_, h4, rfl⟩, fun h => absurd h h2⟩
    rw [ev_cz, ← pev_pder, p7 t]; grind
theorem chain_ok {n s : Nat} {p : List Int} (h : Okp n s p) : ∃ q l, psquare p = some q ∧ chain p = some (q :: l) ∧ Stm (cz q) ((q :: l).map cz) ∧ (q.length < 2 → l = []) := by
  obtain ⟨pp, hl, hb⟩ := h.pr
  have hn := h.z.1
  have hpl := h.l
  obtain ⟨g, q, hq, sq⟩ := square_ok h
  have e1 : ∀ t, pev (prime p) t = pev q t * pev g t := fun t => by rw [sq.e]; grind
  obtain ⟨p1, p2⟩ := pos_of_mul pp.t pp.n e1
  have hll := len_mul sq.pq.t sq.pg.t pp.t e1 p1 p2
  obtain ⟨d, d1, l, d2, d3⟩ := chain_sq h.z sq (by omega) (fac_bd hb (by omega) pp.t sq.pq.t sq.pg.t pp.n e1)
  refine ⟨q, l, hq, ?_, d3⟩
  unfold chain
  rw [hq]
  show (if q.length = 0 then none else _) = _
  rw [if_neg sq.pq.n, d1]
  show (chF 66 q (prime d)).bind _ = _
  rw [d2]; rfl
end Orq

namespace Orq
open Orr Go
/-! ### sizes of times -/
structure Gr (D M k : Nat) (q : Rat) : Prop where
  u : ∃ u : Int, q * ((D * 2 ^ k : Nat) : Rat) = (u : Rat)
  b : qab q ≤ (M : Rat)
  d : 0 < D
theorem nat_pos {n : Nat} (h : 0 < n) : (0 : Rat) < (n : Rat) := by
  have : ((0 : Nat) : Rat) < (n : Rat) := Rat.natCast_lt_natCast.2 h
  simpa using this
theorem gr_up {D M k : Nat} {q : Rat} (h : Gr D M k q) : Gr D M (k + 1) q := by
  obtain ⟨u, hu⟩ := h.u
  refine ⟨⟨u * 2, ?_⟩, h.b, h.d⟩
  rw [Nat.pow_succ, ← Nat.mul_assoc]
  push_cast at hu ⊢
  rw [← hu]; grind
theorem gr_mid {D M k : Nat} {a b : Rat} (ha : Gr D M k a) (hb : Gr D M k b) : Gr D M (k + 1) ((a + b) / 2) := by
  obtain ⟨u, hu⟩ := ha.u
  obtain ⟨v, hv⟩ := hb.u
  have h2 : (a + b) / 2 * 2 = a + b := div_mul (by decide)
  refine ⟨⟨u + v, ?_⟩, ?_, ha.d⟩
  · rw [Nat.pow_succ, ← Nat.mul_assoc]
    push_cast at hu hv ⊢
    rw [← hu, ← hv]
    generalize (a + b) / 2 = c at *
    generalize (D : Rat) * 2 ^ k = z at *
    have : c * (z * 2) = (c * 2) * z := by grind
    rw [this, h2]; grind
  · have h3 := ha.b
    have h4 := hb.b
    rw [qab_le] at *
    constructor <;> grind
theorem gr_den {D M k : Nat} {q : Rat} (h : Gr D M k q) : q.den ≤ D * 2 ^ k := by
  obtain ⟨u, hu⟩ := h.u
  have hp : 0 < D * 2 ^ k := Nat.mul_pos h.d (Nat.pow_pos (by decide))
  have e : q = Rat.divInt u ((D * 2 ^ k : Nat) : Int) := by
    rw [← div_divInt', ← hu]
    have hz := nat_pos hp
    rw [show ((((D * 2 ^ k : Nat) : Int)) : Rat) = ((D * 2 ^ k : Nat) : Rat) from rfl]
    rw [Rat.div_def]
    have := Rat.mul_inv_cancel ((D * 2 ^ k : Nat) : Rat) (by grind)
    generalize ((D * 2 ^ k : Nat) : Rat) = z at *
    have : q * z * z⁻¹ = q * (z * z⁻¹) := by grind
    rw [this, ‹z * z⁻¹ = 1›]; grind
  rw [e, Rat.den_divInt, if_neg (by omega), Int.natAbs_natCast]
  exact Nat.div_le_self _ _
theorem isz_natmul {a b k : Nat} {z : Int} (h : z.natAbs ≤ a * (b * 2 ^ k)) : isz z ≤ isz (a : Int) + isz (b : Int) + k := by
  have h1 : isz (a : Int) ≤ isz (a : Int) := Nat.le_refl _
  have h2 : isz (b : Int) ≤ isz (b : Int) := Nat.le_refl _
  rw [isz_le] at h1 h2 ⊢
  rw [Int.natAbs_natCast] at h1 h2
  rw [Nat.pow_add, Nat.pow_add]
  have h3 : a * b < 2 ^ isz (a : Int) * 2 ^ isz (b : Int) := Nat.mul_lt_mul_of_lt_of_le h1 (Nat.le_of_lt h2) (Nat.pow_pos (by decide))
  have h4 := Nat.mul_lt_mul_of_pos_right h3 (show 0 < 2 ^ k from Nat.pow_pos (by decide))
  rw [← Nat.mul_assoc] at h; omega
theorem gr_qs {D M k B : Nat} {q : Rat} (h : Gr D M k q) (hM : 0 < M) (hs : isz (D : Int) + isz (M : Int) + k ≤ B) : Qs B q := by
  have hd := gr_den h
  have hden := nat_pos q.den_pos
  have h1 : (q.num.natAbs : Rat) ≤ ((M * (D * 2 ^ k) : Nat) : Rat) := by
    have e : (q.num : Rat) = q * (q.den : Rat) := by
      have : (q.num : Rat) / (((q.den : Int)) : Rat) = q := by rw [div_divInt', Rat.num_divInt_den]
      have h2 : (q.num : Rat) / (q.den : Rat) * (q.den : Rat) = q.num := Rat.div_mul_cancel (by grind)
      rw [show (q.num : Rat) / (q.den : Rat) = q from this] at h2; exact h2.symm
    rw [← natAbs_qab, e]
    have h3 := qab_mul_le (x := q) (y := (q.den : Rat)) (b := ((D * 2 ^ k : Nat) : Rat)) h.b (by
      have : qab (q.den : Rat) = (q.den : Rat) := by unfold qab; rw [if_neg (by grind)]
      rw [this]; exact Rat.natCast_le_natCast.2 hd)
    push_cast at h3 ⊢; exact h3
  have h1 := Rat.natCast_le_natCast.1 h1
  refine ⟨?_, ?_⟩
  · have := isz_natmul (z := q.num) h1; omega
  · have := isz_natmul (z := (q.den : Int)) (a := M) (b := D) (k := k) (by
      rw [Int.natAbs_natCast]
      exact Nat.le_trans hd (Nat.le_mul_of_pos_left _ hM))
    omega
theorem mid_eq (a b : Rat) : mid a b = (a + b) / 2 := by
  unfold mid
  rw [← div_divInt']
  have ha : (a.num : Rat) = a * (a.den : Rat) := by
    have : (a.num : Rat) / (((a.den : Int)) : Rat) = a := by rw [div_divInt', Rat.num_divInt_den]
    have h2 : (a.num : Rat) / (a.den : Rat) * (a.den : Rat) = a.num := Rat.div_mul_cancel (by have := nat_pos a.den_pos; grind)
    rw [show (a.num : Rat) / (a.den : Rat) = a from this] at h2; exact h2.symm
  have hb : (b.num : Rat) = b * (b.den : Rat) := by
    have : (b.num : Rat) / (((b.den : Int)) : Rat) = b := by rw [div_divInt', Rat.num_divInt_den]
    have h2 : (b.num : Rat) / (b.den : Rat) * (b.den : Rat) = b.num := Rat.div_mul_cancel (by have := nat_pos b.den_pos; grind)
    rw [show (b.num : Rat) / (b.den : Rat) = b from this] at h2; exact h2.symm
  have pa := nat_pos a.den_pos
  have pb := nat_pos b.den_pos
  rw [Rat.intCast_add, Rat.intCast_mul, Rat.intCast_mul, Rat.intCast_mul, Rat.intCast_mul, ha, hb]
  rw [show (((a.den : Int)) : Rat) = (a.den : Rat) from rfl, show (((b.den : Int)) : Rat) = (b.den : Rat) from rfl, show (((2 : Int)) : Rat) = 2 from rfl]
  generalize (a.den : Rat) = x at *
  generalize (b.den : Rat) = y at *
  have hxy := mul_po (mul_po pa pb) (show (0 : Rat) < 2 by decide)
  have h1 : (a * x * y + b * y * x) / (x * y * 2) * (x * y * 2) = a * x * y + b * y * x := div_mul hxy
  have h2 : (a + b) / 2 * 2 = a + b := div_mul (by decide)
  generalize (a * x * y + b * y * x) / (x * y * 2) = c at *
  generalize (a + b) / 2 = d at *
  have h3 : (x * y * 2) * (c - d) = 0 := by grind
  rcases Rat.mul_eq_zero.1 h3 with h4 | h4 <;> grind
theorem rsub_eq (a b : Rat) : rsub a b = a - b := by
  unfold rsub
  rw [Rat.sub_def', ← Rat.divInt_ofNat]
  push_cast; rfl
theorem cmpQ_eq {a b : Rat} : cmpQ a b = 0 ↔ a = b := by
  constructor
  · intro h
    have h1 : ¬ a < b := fun h' => by have := cmpQ_lt.2 h'; omega
    have h2 : ¬ b < a := fun h' => by have := cmpQ_gt.2 h'; omega
    grind
  · intro h; subst h; exact cmpQ_self a
theorem cmpQ_le {a b : Rat} : cmpQ a b ≤ 0 ↔ a ≤ b := by
  constructor
  · intro h
    have h2 : ¬ b < a := fun h' => by have := cmpQ_gt.2 h'; omega
    grind
  · intro h
    have h2 : ¬ 0 < cmpQ a b := fun h' => by have := cmpQ_gt.1 h'; grind
    omega
theorem cmpQ_ge {a b : Rat} : 0 ≤ cmpQ a b ↔ b ≤ a := by
  constructor
  · intro h
    have h2 : ¬ a < b := fun h' => by have := cmpQ_lt.2 h'; omega
    grind
  · intro h
    have h2 : ¬ cmpQ a b < 0 := fun h' => by have := cmpQ_lt.1 h'; grind
    omega
theorem cmpQ_val (a b : Rat) : cmpQ a b = 1 ∧ b < a ∨ cmpQ a b = 0 ∧ a = b ∨ cmpQ a b = -1 ∧ a < b := by
  have hb := cmpQ_bd a b
  rcases (show cmpQ a b = 1 ∨ cmpQ a b = 0 ∨ cmpQ a b = -1 by omega) with h | h | h
  · exact .inl ⟨h, cmpQ_gt.1 (by omega)⟩
  · exact .inr (.inl ⟨h, cmpQ_eq.1 h⟩)
  · exact .inr (.inr ⟨h, cmpQ_lt.1 (by omega)⟩)
/-! ### cuts of times -/
theorem low_lowQ (p : List Int) (x : Rat) : low p x = lowQ (cz p) x := by
  unfold low lowQ
  rw [psign_ev, psign_ev, ev_cz, pev_pder]
theorem cmpR_cq {t : Tm} (h : t.lo < t.hi) (q : Rat) : cmpR t q = cq (cz t.p) t.lo t.hi q := by
  have hp : t.point = false := by
    unfold Tm.point
    have : ¬ 0 ≤ cmpQ t.lo t.hi := fun h' => by have := cmpQ_ge.1 h'; grind
    simp [this]
  unfold cmpR cq
  rw [hp, if_neg (by decide)]
  have e1 : (cmpQ q t.lo ≤ 0) = (q ≤ t.lo) := propext cmpQ_le
  have e2 : (0 < cmpQ q t.hi) = (t.hi < q) := propext cmpQ_gt
  rw [psign_ev, low_lowQ, ← ev_cz]
  simp only [e1, e2]
theorem point_iff {t : Tm} : t.point = true ↔ t.hi ≤ t.lo := by
  unfold Tm.point
  rw [decide_eq_true_iff]; exact cmpQ_ge
theorem cmpR_pt {t : Tm} (h : t.lo = t.hi) (q : Rat) : cmpR t q = cmpQ t.lo q := by
  have hp : t.point = true := point_iff.2 (by rw [h]; exact Rat.le_refl)
  unfold cmpR; rw [if_pos hp]
theorem cut_pt {c : Rat → Int} {x : Rat} (h : ∀ q, c q = cmpQ x q) : Cut c where
  val q := by rw [h]; have := cmpQ_bd x q; omega
  mono q r hqr h1 := by
    rw [h] at h1 ⊢
    rcases cmpQ_val x q with ⟨e, e'⟩ | ⟨e, e'⟩ | ⟨e, e'⟩
    · exact absurd e h1
    · rcases cmpQ_val x r with ⟨f, f'⟩ | ⟨f, f'⟩ | ⟨f, f'⟩ <;> grind
    · rcases cmpQ_val x r with ⟨f, f'⟩ | ⟨f, f'⟩ | ⟨f, f'⟩ <;> grind
  up q h1 := by
    rw [h] at h1
    have h2 := cmpQ_gt.1 (show 0 < cmpQ x q by omega)
    have h3 : (x + q) / 2 * 2 = x + q := div_mul (by decide)
    have h4 := cmpQ_gt.2 (show (x + q) / 2 < x by grind)
    have := cmpQ_bd x ((x + q) / 2)
    exact ⟨(x + q) / 2, by grind, by rw [h]; omega⟩
  dn q h1 := by
    rw [h] at h1
    have h2 := cmpQ_lt.1 (show cmpQ x q < 0 by omega)
    have h3 : (x + q) / 2 * 2 = x + q := div_mul (by decide)
    have h4 := cmpQ_lt.2 (show x < (x + q) / 2 by grind)
    have := cmpQ_bd x ((x + q) / 2)
    exact ⟨(x + q) / 2, by grind, by rw [h]; omega⟩
  lo := ⟨x - 1, by
    rw [h]
    have h4 := cmpQ_gt.2 (show x - 1 < x by grind)
    have := cmpQ_bd x (x - 1); omega⟩
  hi := ⟨x + 1, by
    rw [h]
    have h4 := cmpQ_lt.2 (show x < x + 1 by grind)
    have := cmpQ_bd x (x + 1); omega⟩
/-- a time that is one: a rational number that is a root, or the one root within an interval -/
structure Va (t : Tm) : Prop where
  i : t.lo = t.hi ∧ pev t.p t.lo = 0 ∨ ∃ L, Vt (cz t.p) L t.lo t.hi
  tr : Trim t.p
  n : t.p.length ≤ 9
  n2 : 2 ≤ t.p.length
  b : Bd 1000 t.p
  g : ∃ D M k, Gr D M k t.lo ∧ Gr D M k t.hi ∧ 0 < M ∧ isz (D : Int) + isz (M : Int) + k ≤ 1000000
theorem Va.le {t : Tm} (h : Va t) : t.lo ≤ t.hi := by
  rcases h.i with ⟨e, _⟩ | ⟨L, V⟩
  · rw [e]; exact Rat.le_refl
  · exact Rat.le_of_lt V.l
theorem Va.pt {t : Tm} (h : Va t) (hp : t.point = true) : t.lo = t.hi ∧ pev t.p t.lo = 0 := by
  rcases h.i with e | ⟨L, V⟩
  · exact e
  · have := point_iff.1 hp
    have := V.l
    grind
theorem Va.iv {t : Tm} (h : Va t) (hp : t.point = false) : ∃ L, Vt (cz t.p) L t.lo t.hi := by
  rcases h.i with ⟨e, _⟩ | h
  · have := point_iff.2 (show t.hi ≤ t.lo by rw [e]; exact Rat.le_refl)
    rw [hp] at this; cases this
  · exact h
theorem Va.cut {t : Tm} (h : Va t) : Cut (cmpR t) := by
  rcases h.i with ⟨e, _⟩ | ⟨L, V⟩
  · exact cut_pt (x := t.lo) fun q => cmpR_pt e q
  · have : cmpR t = cq (cz t.p) t.lo t.hi := funext fun q => cmpR_cq V.l q
    rw [this]; exact V.cut
theorem van_pt {c : Rat → Int} (hc : Cut c) {p : List Rat} {x : Rat} (h : c x = 0) (h0 : ev p x = 0) : Van p c := by
  rcases van_or hc p with h1 | ⟨s, hs, h1⟩
  · exact h1
  · have := nz_at hc h h1
    rw [sgnQ_zero.2 h0] at this; exact absurd this.symm hs
theorem Va.van {t : Tm} (h : Va t) : Van (cz t.p) (cmpR t) := by
  have hc := h.cut
  rcases h.i with ⟨e, h0⟩ | ⟨L, V⟩
  · exact van_pt hc (x := t.lo) (by rw [cmpR_pt e, cmpQ_self]) (by rw [ev_cz]; exact h0)
  · have : cmpR t = cq (cz t.p) t.lo t.hi := funext fun q => cmpR_cq V.l q
    rw [this]; exact V.van
theorem Va.qs {t : Tm} (h : Va t) : Qs 1000000 t.lo ∧ Qs 1000000 t.hi := by
  obtain ⟨D, M, k, h1, h2, h3, h4⟩ := h.g
  exact ⟨gr_qs h1 h3 h4, gr_qs h2 h3 h4⟩
theorem Va.tb {t : Tm} (h : Va t) : Tb t := ⟨⟨h.tr, by have := h.n; omega, bd_mono h.b (by omega)⟩, h.qs.1.mono (t := 16777216) (by omega), h.qs.2.mono (t := 16777216) (by omega)⟩
/-! ### halving -/
/-- so far halved: the same place, a shorter interval -/
structure Hv (t : Tm) (D M k : Nat) (u : Tm) : Prop where
  p : u.p = t.p
  i : u.lo = u.hi ∧ pev u.p u.lo = 0 ∨ ∃ L, Vt (cz u.p) L u.lo u.hi
  c : ∀ q, cmpR u q = cmpR t q
  l : Gr D M k u.lo
  h : Gr D M k u.hi
theorem cut_zero {c : Rat → Int} (hc : Cut c) {x : Rat} (h : c x = 0) (q : Rat) : c q = cmpQ x q := by
  rcases cmpQ_val x q with ⟨e, e'⟩ | ⟨e, e'⟩ | ⟨e, e'⟩
  · rw [e]; exact hc.mono' e' (by omega)
  · rw [e, ← e', h]
  · rw [e]; exact hc.mono x q e' (by omega)
theorem half_ok {t u : Tm} {D M k : Nat} (hu : Hv t D M k u) (hM : 0 < M) (hs : isz (D : Int) + isz (M : Int) + (k + 1) ≤ 16777216) : ∃ v, half u = some v ∧ Hv t D M (k + 1) v ∧ v.hi - v.lo ≤ (u.hi - u.lo) / 2 ∧ u.lo ≤ v.lo ∧ v.hi ≤ u.hi := by
  have h2 : ∀ x : Rat, x / 2 * 2 = x := fun x => div_mul (by decide)
  unfold half
  rcases hu.i with ⟨e, h0⟩ | ⟨L, V⟩
  · have hp : u.point = true := point_iff.2 (by rw [e]; exact Rat.le_refl)
    rw [if_pos hp]
    refine ⟨u, rfl, ⟨hu.p, hu.i, hu.c, gr_up hu.l, gr_up hu.h⟩, ?_, Rat.le_refl, Rat.le_refl⟩
    rw [e]; have := h2 (u.hi - u.hi); grind
  · have hp : u.point = false := by
      have : ¬ u.point = true := fun h => by have := point_iff.1 h; have := V.l; grind
      simpa using this
    rw [hp, if_neg (by decide)]
    obtain ⟨m, hm⟩ : ∃ m, m = (u.lo + u.hi) / 2 := ⟨_, rfl⟩
    have hmg : Gr D M (k + 1) m := by rw [hm]; exact gr_mid hu.l hu.h
    have hmm := h2 (u.lo + u.hi)
    rw [← hm] at hmm
    have hl := V.l
    have hl1 : u.lo < m := by grind
    have hl2 : m < u.hi := by grind
    have hch : chq (mid u.lo u.hi) = some m := by
      rw [mid_eq, ← hm]
      have := gr_qs hmg hM hs
      unfold chq
      rw [if_pos ⟨this.1, this.2⟩]
    have hcm : mid u.lo u.hi = m := by rw [mid_eq, ← hm]
    rw [hch]
    show ∃ v, some (if cmpR u m = 0 then (⟨u.p, m, m⟩ : Tm) else if cmpR u m = -1 then ⟨u.p, u.lo, m⟩ else ⟨u.p, m, u.hi⟩) = some v ∧ _
    have hw := h2 (u.hi - u.lo)
    have hcu := cmpR_cq hl
    have hcut := V.cut
    have hcut' : Cut (cmpR u) := by rw [show cmpR u = cq (cz u.p) u.lo u.hi from funext hcu]; exact hcut
    by_cases c0 : cmpR u m = 0
    · rw [if_pos c0]
      have hz : pev u.p m = 0 := by
        have := van_at hcut (q := m) (by rw [← hcu]; exact c0) V.van
        rwa [ev_cz] at this
      refine ⟨_, rfl, ⟨hu.p, .inl ⟨rfl, hz⟩, fun q => ?_, hmg, hmg⟩, by show m - m ≤ _; grind, by show u.lo ≤ m; grind, by show m ≤ u.hi; grind⟩
      rw [cmpR_pt rfl, ← hu.c]
      exact (cut_zero hcut' c0 q).symm
    · rw [if_neg c0]
      by_cases c1 : cmpR u m = -1
      · rw [if_pos c1]
        have hv : vv L m = vv L u.hi := V.eq_hi hl1 (Rat.le_of_lt hl2) (by rw [← hcu, c1]; decide)
        have V' : Vt (cz u.p) L u.lo m := ⟨V.s, hl1, by rw [hv]; exact V.v⟩
        refine ⟨_, rfl, ⟨hu.p, .inr ⟨L, V'⟩, fun q => ?_, gr_up hu.l, hmg⟩, by show m - u.lo ≤ _; grind, Rat.le_refl, by show m ≤ u.hi; grind⟩
        rw [cmpR_cq hl1, ← hu.c, hcu]
        exact V.uniq V'.cut (cq_lo Rat.le_refl) (by rw [cq_hi hl1 hl2]; decide) V'.van q
      · rw [if_neg c1]
        have c2 : cmpR u m = 1 := by rcases hcut'.val m with h | h | h <;> omega
        have hv : vv L m = vv L u.lo := V.eq_lo hl1 (Rat.le_of_lt hl2) (by rw [← hcu]; exact c2)
        have V' : Vt (cz u.p) L m u.hi := ⟨V.s, hl2, by rw [hv]; exact V.v⟩
        refine ⟨_, rfl, ⟨hu.p, .inr ⟨L, V'⟩, fun q => ?_, hmg, gr_up hu.h⟩, by show u.hi - m ≤ _; grind, by show u.lo ≤ m; grind, Rat.le_refl⟩
        rw [cmpR_cq hl2, ← hu.c, hcu]
        exact V.uniq V'.cut (cq_lo (by grind)) V'.hi1 V'.van q
end Orq

namespace Orq
open Orr Go
def TLt (a b : Tm) : Prop := ∃ q, cmpR a q = -1 ∧ cmpR b q = 1
def TEq (a b : Tm) : Prop := ∀ q, cmpR a q = cmpR b q
theorem tri {a b : Tm} (ha : Cut (cmpR a)) (hb : Cut (cmpR b)) : TLt a b ∨ TEq a b ∨ TLt b a := by
  rcases Classical.em (TEq a b) with h | h
  · exact .inr (.inl h)
  · obtain ⟨q, hq⟩ := Classical.not_forall.1 h
    obtain ⟨r, ⟨h1, h2⟩ | ⟨h1, h2⟩⟩ := cut_diff ha hb hq
    · exact .inl ⟨r, h1, h2⟩
    · exact .inr (.inr ⟨r, h2, h1⟩)
theorem lt_irr {a b : Tm} (ha : Cut (cmpR a)) (hb : Cut (cmpR b)) (h : TLt a b) (h' : TLt b a) : False := by
  obtain ⟨q, q1, q2⟩ := h
  obtain ⟨r, r1, r2⟩ := h'
  have := ha.lt r2 q1
  have := hb.lt q2 r1
  grind
/-! ### the gap, in numbers -/
theorem psize_bd {p : List Int} (k : Nat) : (p.getD k 0).natAbs ≤ 2 ^ psize p := by
  have h : isz (p.getD k 0) ≤ psize p := by
    have key : ∀ (l : List Int) (n : Nat), n ≤ l.foldl (fun n z => max n (isz z)) n ∧ ∀ z ∈ l, isz z ≤ l.foldl (fun n z => max n (isz z)) n := by
      intro l
      induction l with
      | nil => exact fun n => ⟨Nat.le_refl _, fun z hz => by cases hz⟩
      | cons y l ih =>
        intro n
        obtain ⟨i1, i2⟩ := ih (max n (isz y))
        refine ⟨by simp only [List.foldl_cons]; omega, fun z hz => ?_⟩
        simp only [List.foldl_cons]
        rcases List.mem_cons.1 hz with rfl | hz
        · omega
        · exact i2 z hz
    exact bd_getD (s := psize p) (fun z hz => (key p 0).2 z hz) k
  rw [isz_le] at h; omega
theorem gB_bd {s : Nat} : ∀ (B : List Int), (∀ z ∈ B, z.natAbs ≤ 2 ^ s) → gB B ≤ 2 ^ (s + (B.length - 1))
  | [], _ => Nat.zero_le _
  | c :: B, h => by
    have h1 := h c (List.mem_cons_self ..)
    have h2 := gB_bd B fun z hz => h z (List.mem_cons_of_mem _ hz)
    simp only [gB, List.length_cons, Nat.add_sub_cancel]
    have h3 : 2 ^ s ≤ 2 ^ (s + B.length) := Nat.pow_le_pow_right (by decide) (by omega)
    cases B with
    | nil => simp only [gB, List.length_nil] at *; omega
    | cons d B =>
      have h4 : 2 ^ (s + (d :: B).length) = 2 * 2 ^ (s + ((d :: B).length - 1)) := by
        rw [Nat.mul_comm, ← Nat.pow_succ]; congr 1
      rw [h4]; omega
/-- binary digits of the gap's contrary -/
def gapK (A B : List Int) : Nat := (psize A + psize B + (A.length + B.length) + 8) * (2 * (A.length + B.length - 2) - 1)
theorem gap_T {A B : List Int} (tA : Trim A) (tB : Trim B) (nA : A.length ≤ 9) (nB : B.length ≤ 9) (lA : 2 ≤ A.length) (lB : 2 ≤ B.length) {R d : Rat} (hR : 1 ≤ R) (dp : 0 < d)
    (hs : ∀ e : Rat, 0 < e → ∃ q r, qab q ≤ R ∧ qab r ≤ R ∧ d ≤ qab (q - r) ∧ qab (q - r) * ((2 ^ (gapK A B + 1) : Nat) : Rat) ≤ 1 ∧ qab (pev A q) < e ∧ qab (pev B r) < e) : False := by
  obtain ⟨a, ha⟩ : ∃ a, A.length = a + 1 := ⟨A.length - 1, by omega⟩
  obtain ⟨b, hb⟩ : ∃ b, B.length = b + 1 := ⟨B.length - 1, by omega⟩
  obtain ⟨s, hsd⟩ : ∃ s, s = psize A + psize B + b := ⟨_, rfl⟩
  obtain ⟨N, hN⟩ : ∃ N, b * (2 * (a * b)) + a * (2 * (a * b) - b) = N := ⟨_, rfl⟩
  have hNt : N ≤ 2 ^ (a + 9) := by
    rw [← hN]
    have hab : ∀ a b : Fin 9, b.1 * (2 * (a.1 * b.1)) + a.1 * (2 * (a.1 * b.1) - b.1) ≤ 2 ^ (a.1 + 9) := by decide
    exact hab ⟨a, by omega⟩ ⟨b, by omega⟩
  have hK : gapK A B = (s + a + 10) * (2 * (a + b - 1) + 1) := by
    unfold gapK
    rw [ha, hb, hsd, show a + 1 + (b + 1) - 2 = a + b by omega, show 2 * (a + b) - 1 = 2 * (a + b - 1) + 1 by omega]
    congr 1; omega
  have h0A : A.getD a 0 ≠ 0 := by have := trim_zero tA (by omega); rwa [ha] at this
  have h0B : B.getD b 0 ≠ 0 := by have := trim_zero tB (by omega); rwa [hb] at this
  have hp : ∀ m, 1 ≤ 2 ^ m := fun m => Nat.pow_pos (by decide)
  refine gap_no (N := N) (D := 2 ^ (gapK A B - 1)) ha hb h0A h0B (by omega) (by omega) (h := 2 ^ s) (hp s) (fun k => Nat.le_trans (psize_bd k) (Nat.pow_le_pow_right (by decide) (by omega))) ?_ hN ?_ hR dp fun e ep => ?_
  · refine Nat.le_trans (gB_bd (s := psize B) B fun z hz => ?_) (Nat.pow_le_pow_right (by decide) (by omega))
    obtain ⟨i, hi⟩ := List.mem_iff_getElem?.1 hz
    have := psize_bd (p := B) i
    rwa [List.getD_eq_getElem?_getD, hi] at this
  · have h1 : 2 * (N * 2 ^ s) ≤ 2 ^ (s + a + 10) := by
      have : N * 2 ^ s ≤ 2 ^ (a + 9) * 2 ^ s := Nat.mul_le_mul_right _ hNt
      rw [← Nat.pow_add] at this
      rw [show s + a + 10 = (a + 9 + s) + 1 by omega, Nat.pow_succ]; omega
    have h2 : N * 2 ^ s ≤ 2 ^ (s + a + 9) := by
      rw [show s + a + 9 = (a + 9) + s by omega, Nat.pow_add]; exact Nat.mul_le_mul_right _ hNt
    have h3 := Nat.pow_le_pow_left h1 (2 * (a + b - 1))
    have h4 := Nat.mul_le_mul h2 h3
    rw [← Nat.pow_mul, ← Nat.pow_add] at h4
    rw [← Nat.mul_assoc]
    refine Nat.le_trans h4 (Nat.pow_le_pow_right (by decide) ?_)
    rw [hK, Nat.mul_add, Nat.mul_one]; omega
  · obtain ⟨q, r, h1, h2, h3, h4, h5, h6⟩ := hs e ep
    refine ⟨q, r, h1, h2, h3, ?_, h5, h6⟩
    have hK1 : 1 ≤ gapK A B := by
      rw [hK]; exact Nat.mul_pos (by omega) (by omega)
    have e1 : 2 ^ (gapK A B + 1) = 4 * 2 ^ (gapK A B - 1) := by
      obtain ⟨m, hm⟩ : ∃ m, gapK A B = m + 1 := ⟨gapK A B - 1, by omega⟩
      rw [hm, Nat.add_sub_cancel, Nat.pow_succ, Nat.pow_succ]; omega
    rw [e1] at h4
    push_cast at h4 ⊢
    exact h4
/-! ### ends of intervals -/
theorem Hv.lo' {t : Tm} {D M k : Nat} {u : Tm} (h : Hv t D M k u) : cmpR t u.lo = 1 ∨ cmpR t u.lo = 0 ∧ u.lo = u.hi := by
  rw [← h.c]
  rcases h.i with ⟨e, _⟩ | ⟨L, V⟩
  · exact .inr ⟨by rw [cmpR_pt e, cmpQ_self], e⟩
  · exact .inl (by rw [cmpR_cq V.l]; exact cq_lo Rat.le_refl)
theorem Hv.hi' {t : Tm} {D M k : Nat} {u : Tm} (h : Hv t D M k u) : cmpR t u.hi = 0 ∨ cmpR t u.hi = -1 := by
  rw [← h.c]
  rcases h.i with ⟨e, _⟩ | ⟨L, V⟩
  · exact .inl (by rw [cmpR_pt e, e, cmpQ_self])
  · rw [cmpR_cq V.l]
    have := V.hi1
    rcases V.cut.val u.hi with h | h | h <;> omega
theorem Hv.le {t : Tm} {D M k : Nat} {u : Tm} (h : Hv t D M k u) : u.lo ≤ u.hi := by
  rcases h.i with ⟨e, _⟩ | ⟨L, V⟩
  · rw [e]; exact Rat.le_refl
  · exact Rat.le_of_lt V.l
/-- two times that are not one: their intervals do not stay together -/
theorem gap_lt {a b : Tm} (ha : Va a) (hb : Va b) {D M k D' M' k' : Nat} {u v : Tm} (hu : Hv a D M k u) (hv : Hv b D' M' k' v) (h : TLt a b) : 1 < (v.hi - u.lo) * ((2 ^ (gapK a.p b.p + 1) : Nat) : Rat) := by
  rcases le_or ((v.hi - u.lo) * ((2 ^ (gapK a.p b.p + 1) : Nat) : Rat)) 1 with hw | hw
  · exfalso
    have ca := ha.cut
    have cb := hb.cut
    obtain ⟨m, m1, m2⟩ := h
    obtain ⟨m', hm', m3⟩ := ca.dn m m1
    have hpow : (0 : Rat) ≤ ((2 ^ (gapK a.p b.p + 1) : Nat) : Rat) := Rat.natCast_nonneg
    obtain ⟨R, hR⟩ : ∃ R, R = qab u.lo + qab m' + qab m + qab v.hi + 1 := ⟨_, rfl⟩
    have n1 := qab_nn u.lo; have n2 := qab_nn m'; have n3 := qab_nn m; have n4 := qab_nn v.hi
    refine gap_T (R := R) (d := m - m') ha.tr hb.tr ha.n hb.n ha.n2 hb.n2 (by grind) (by grind) fun e ep => ?_
    -- q near a, at most m', at least u.lo
    obtain ⟨q, q1, q2, q3⟩ : ∃ q, u.lo ≤ q ∧ q ≤ m' ∧ qab (pev a.p q) < e := by
      rcases hu.lo' with h1 | ⟨h1, _⟩
      · obtain ⟨x, y, hx, hy, hq⟩ := ha.van e ep
        rcases le_or x u.lo with e1 | e1
        · exact ⟨u.lo, Rat.le_refl, Rat.le_of_lt (ca.lt h1 m3), by rw [← ev_cz]; exact hq u.lo e1 (Rat.le_of_lt (ca.lt h1 hy))⟩
        · exact ⟨x, Rat.le_of_lt e1, Rat.le_of_lt (ca.lt hx m3), by rw [← ev_cz]; exact hq x Rat.le_refl (Rat.le_of_lt (ca.lt hx hy))⟩
      · refine ⟨u.lo, Rat.le_refl, ?_, by rw [← ev_cz, van_at ca h1 ha.van, qab_zero]; exact ep⟩
        rcases le_or u.lo m' with e1 | e1
        · exact e1
        · have := ca.mono m' u.lo e1 (by omega); omega
    obtain ⟨r, r1, r2, r3⟩ : ∃ r, r ≤ v.hi ∧ m ≤ r ∧ qab (pev b.p r) < e := by
      rcases hv.hi' with h1 | h1
      · refine ⟨v.hi, Rat.le_refl, ?_, by rw [← ev_cz, van_at cb h1 hb.van, qab_zero]; exact ep⟩
        rcases le_or m v.hi with e1 | e1
        · exact e1
        · have := cb.mono v.hi m e1 (by omega); omega
      · obtain ⟨x, y, hx, hy, hq⟩ := hb.van e ep
        rcases le_or v.hi y with e1 | e1
        · exact ⟨v.hi, Rat.le_refl, Rat.le_of_lt (cb.lt m2 h1), by rw [← ev_cz]; exact hq v.hi (Rat.le_of_lt (cb.lt hx h1)) e1⟩
        · exact ⟨y, Rat.le_of_lt e1, Rat.le_of_lt (cb.lt m2 hy), by rw [← ev_cz]; exact hq y (Rat.le_of_lt (cb.lt hx hy)) Rat.le_refl⟩
    have e1 : qab (q - r) = r - q := by unfold qab; split <;> grind
    have b1 : qab q ≤ R := by
      have := in_R (R := R) (x := u.lo) (y := m') (t := q) (by grind) (by grind) q1 q2; exact this
    have b2 : qab r ≤ R := by
      have := in_R (R := R) (x := m) (y := v.hi) (t := r) (by grind) (by grind) r2 r1; exact this
    refine ⟨q, r, b1, b2, by rw [e1]; grind, ?_, q3, r3⟩
    rw [e1]
    have := Rat.mul_le_mul_of_nonneg_right (show r - q ≤ v.hi - u.lo by grind) hpow
    exact Rat.le_trans this hw
  · exact hw
/-! ### two intervals apart -/
theorem below_lt {a b : Tm} (ha : Va a) (hb : Va b) {D M k D' M' k' : Nat} {u v : Tm} (hu : Hv a D M k u) (hv : Hv b D' M' k' v) (hne : ¬ TEq a b) (h : below u v = true) : TLt a b := by
  have h1 := (of_decide_eq_true h).1
  have h1 := cmpQ_le.1 h1
  rcases tri ha.cut hb.cut with h2 | h2 | ⟨m, m1, m2⟩
  · exact h2
  · exact absurd h2 hne
  · exfalso
    have e1 : m < u.hi := by
      rcases le_or u.hi m with e | e
      · rcases Classical.em (u.hi = m) with e' | e'
        · have := hu.hi'; rw [e'] at this; omega
        · have := ha.cut.mono u.hi m (by grind) (by have := hu.hi'; omega); omega
      · exact e
    have e2 : v.lo < m := by
      rcases le_or m v.lo with e | e
      · rcases Classical.em (m = v.lo) with e' | e'
        · have := hv.lo'; rw [← e'] at this; omega
        · have := hb.cut.mono m v.lo (by grind) (by omega)
          have := hv.lo'; omega
      · exact e
    grind
/-- neither lies below the other one: they overlap -/
theorem overlap {a b : Tm} (ha : Va a) (hb : Va b) {D M k D' M' k' : Nat} {u v : Tm} (hu : Hv a D M k u) (hv : Hv b D' M' k' v) (hlt : TLt a b) (h : below u v ≠ true) : v.lo ≤ u.hi := by
  rcases le_or v.lo u.hi with e | e
  · exact e
  · refine absurd (decide_eq_true ⟨cmpQ_le.2 (Rat.le_of_lt e), fun h' => ?_⟩) h
    have := cmpQ_eq.1 h'.2; grind
theorem pow2R (m : Nat) : ((2 ^ (m + 1) : Nat) : Rat) = 2 * ((2 ^ m : Nat) : Rat) := by rw [Nat.pow_succ]; push_cast; grind
/-- the result of apart -/
def ApOk (a b : Tm) (r : Tm × Tm × Int) : Prop := r.2.2 = -1 ∧ TLt a b ∨ r.2.2 = 1 ∧ TLt b a
theorem gapK_comm (A B : List Int) : gapK A B = gapK B A := by unfold gapK; rw [Nat.add_comm A.length, Nat.add_comm (psize A)]
theorem ap_ok {a b : Tm} (ha : Va a) (hb : Va b) (hne : ¬ TEq a b) {D M D' M' : Nat} (hM : 0 < M) (hM' : 0 < M') : ∀ (i j : Nat) (u v : Tm) (k k' : Nat) (W : Rat), 2 * i + 1 ≤ j → Hv a D M k u → Hv b D' M' k' v → isz (D : Int) + isz (M : Int) + (k + j) ≤ 16777216 → isz (D' : Int) + isz (M' : Int) + (k' + j) ≤ 16777216 → u.hi - u.lo ≤ W → v.hi - v.lo ≤ W → 2 * W * ((2 ^ (gapK a.p b.p + 1) : Nat) : Rat) ≤ ((2 ^ i : Nat) : Rat) → ∃ r, apF j u v = some r ∧ ApOk a b r := by
  intro i
  -- one look, one step
  have step : ∀ (j : Nat) (u v : Tm) (k k' : Nat), Hv a D M k u → Hv b D' M' k' v → isz (D : Int) + isz (M : Int) + (k + (j + 1)) ≤ 16777216 → isz (D' : Int) + isz (M' : Int) + (k' + (j + 1)) ≤ 16777216 → (∃ r, apF (j + 1) u v = some r ∧ ApOk a b r) ∨ (below u v ≠ true ∧ below v u ≠ true ∧ ∃ u' v' k1 k1', apF (j + 1) u v = apF j u' v' ∧ Hv a D M k1 u' ∧ Hv b D' M' k1' v' ∧ k1 ≤ k + 1 ∧ k1' ≤ k' + 1 ∧ (v.hi - v.lo ≤ u.hi - u.lo ∧ u'.hi - u'.lo ≤ (u.hi - u.lo) / 2 ∧ v' = v ∨ u.hi - u.lo ≤ v.hi - v.lo ∧ v'.hi - v'.lo ≤ (v.hi - v.lo) / 2 ∧ u' = u)) := by
    intro j u v k k' hu hv hs hs'
    by_cases h1 : below u v = true
    · exact .inl ⟨(u, v, -1), by simp only [apF]; rw [if_pos h1], .inl ⟨rfl, below_lt ha hb hu hv hne h1⟩⟩
    by_cases h2 : below v u = true
    · exact .inl ⟨(u, v, 1), by simp only [apF]; rw [if_neg h1, if_pos h2], .inr ⟨rfl, below_lt hb ha hv hu (fun h => hne fun q => (h q).symm) h2⟩⟩
    refine .inr ⟨h1, h2, ?_⟩
    by_cases h3 : 0 ≤ cmpQ (rsub u.hi u.lo) (rsub v.hi v.lo)
    · obtain ⟨x, x1, x2, x3, _⟩ := half_ok hu hM (by omega)
      refine ⟨x, v, k + 1, k', ?_, x2, hv, by omega, by omega, .inl ⟨?_, x3, rfl⟩⟩
      · simp only [apF]; rw [if_neg h1, if_neg h2, if_pos h3, x1]; rfl
      · have := cmpQ_ge.1 h3; rwa [rsub_eq, rsub_eq] at this
    · obtain ⟨x, x1, x2, x3, _⟩ := half_ok hv hM' (by omega)
      refine ⟨u, x, k, k' + 1, ?_, hu, x2, by omega, by omega, .inr ⟨?_, x3, rfl⟩⟩
      · simp only [apF]; rw [if_neg h1, if_neg h2, if_neg h3, x1]; rfl
      · rcases le_or (u.hi - u.lo) (v.hi - v.lo) with e | e
        · exact e
        · refine absurd (cmpQ_ge.2 ?_) h3
          rw [rsub_eq, rsub_eq]; exact Rat.le_of_lt e
  induction i with
  | zero =>
    intro j u v k k' W hj hu hv hs hs' hW hW' hK
    obtain ⟨j, rfl⟩ : ∃ m, j = m + 1 := ⟨j - 1, by omega⟩
    rcases step j u v k k' hu hv hs hs' with h | ⟨h1, h2, _⟩
    · exact h
    · exfalso
      have hpow : (0 : Rat) ≤ ((2 ^ (gapK a.p b.p + 1) : Nat) : Rat) := Rat.natCast_nonneg
      rw [Nat.pow_zero] at hK
      rcases tri ha.cut hb.cut with h3 | h3 | h3
      · have h4 := overlap ha hb hu hv h3 h1
        have h5 := gap_lt ha hb hu hv h3
        have h6 := Rat.mul_le_mul_of_nonneg_right (show v.hi - u.lo ≤ 2 * W by clear step; grind) hpow
        have h7 : ((1 : Nat) : Rat) = 1 := rfl
        rw [h7] at hK
        clear step; grind
      · exact hne h3
      · have h4 := overlap hb ha hv hu h3 h2
        have h5 := gap_lt hb ha hv hu h3
        rw [gapK_comm] at h5
        have h6 := Rat.mul_le_mul_of_nonneg_right (show u.hi - v.lo ≤ 2 * W by clear step; grind) hpow
        have h7 : ((1 : Nat) : Rat) = 1 := rfl
        rw [h7] at hK
        clear step; grind
  | succ i ih =>
    intro j u v k k' W hj hu hv hs hs' hW hW' hK
    obtain ⟨j, rfl⟩ : ∃ m, j = m + 2 := ⟨j - 2, by omega⟩
    have hd : ∀ x : Rat, x / 2 * 2 = x := fun x => div_mul (by decide)
    rcases step (j + 1) u v k k' hu hv hs hs' with h | ⟨_, _, u1, v1, k1, k1', e1, hu1, hv1, hk1, hk1', hw1⟩
    · exact h
    · rw [e1]
      rcases step j u1 v1 k1 k1' hu1 hv1 (by omega) (by omega) with h | ⟨_, _, u2, v2, k2, k2', e2, hu2, hv2, hk2, hk2', hw2⟩
      · exact h
      · rw [e2]
        have a1 := hd (u.hi - u.lo); have a2 := hd (v.hi - v.lo); have a3 := hd (u1.hi - u1.lo); have a4 := hd (v1.hi - v1.lo); have a5 := hd W
        have b1 := hu.le; have b2 := hv.le; have b3 := hu1.le; have b4 := hv1.le; have b5 := hu2.le; have b6 := hv2.le
        have hww : u2.hi - u2.lo ≤ W / 2 ∧ v2.hi - v2.lo ≤ W / 2 := by
          clear step ih
          rcases hw1 with ⟨c1, c2, rfl⟩ | ⟨c1, c2, rfl⟩ <;> rcases hw2 with ⟨d1, d2, rfl⟩ | ⟨d1, d2, rfl⟩ <;> constructor <;> grind
        refine ih j u2 v2 k2 k2' (W / 2) (by omega) hu2 hv2 (by omega) (by omega) hww.1 hww.2 ?_
        rw [pow2R i] at hK
        have : 2 * (W / 2) * ((2 ^ (gapK a.p b.p + 1) : Nat) : Rat) * 2 = 2 * W * ((2 ^ (gapK a.p b.p + 1) : Nat) : Rat) := by clear step ih hw1 hw2; grind
        clear step ih hw1 hw2; grind
end Orq

namespace Orq
open Orr Go
/-- how two times compare -/
def CmpOk (a b : Tm) (c : Int) : Prop := c = -1 ∧ TLt a b ∨ c = 0 ∧ TEq a b ∨ c = 1 ∧ TLt b a
theorem Va.hv0 {t : Tm} (h : Va t) : ∃ D M k, Hv t D M k t ∧ 0 < M ∧ isz (D : Int) + isz (M : Int) + k ≤ 1000000 := by
  obtain ⟨D, M, k, h1, h2, h3, h4⟩ := h.g
  exact ⟨D, M, k, ⟨rfl, h.i, fun _ => rfl, h1, h2⟩, h3, h4⟩
theorem pt_cut {a : Tm} (ha : Va a) (hp : a.point = true) (q : Rat) : cmpR a q = cmpQ a.lo q := cmpR_pt (ha.pt hp).1 q
theorem cmp_pt {a b : Tm} (hb : Va b) {x : Rat} (hx : ∀ q, cmpR a q = cmpQ x q) : CmpOk a b (-cmpR b x) := by
  have cb := hb.cut
  rcases cb.val x with h | h | h
  · obtain ⟨q, q1, q2⟩ := cb.up x h
    refine .inl ⟨by omega, q, ?_, q2⟩
    rw [hx]; rcases cmpQ_val x q with ⟨e, e'⟩ | ⟨e, e'⟩ | ⟨e, e'⟩ <;> grind
  · exact .inr (.inl ⟨by omega, fun q => by rw [hx, cut_zero cb h]⟩)
  · obtain ⟨q, q1, q2⟩ := cb.dn x h
    refine .inr (.inr ⟨by omega, q, q2, ?_⟩)
    rw [hx]; rcases cmpQ_val x q with ⟨e, e'⟩ | ⟨e, e'⟩ | ⟨e, e'⟩ <;> grind
theorem CmpOk.symm {a b : Tm} {c : Int} (h : CmpOk a b c) : CmpOk b a (-c) := by
  rcases h with ⟨h1, h2⟩ | ⟨h1, h2⟩ | ⟨h1, h2⟩
  · exact .inr (.inr ⟨by omega, h2⟩)
  · exact .inr (.inl ⟨by omega, fun q => (h2 q).symm⟩)
  · exact .inl ⟨by omega, h2⟩
theorem szz9 : Szz 9 1000 := ⟨by decide, by decide⟩
theorem hasR_iff (g : List Int) (lo hi : Rat) : hasR g lo hi = true ↔ hasQ (cz g) lo hi := by
  unfold hasR hasQ
  rw [decide_eq_true_iff, psign_ev, low_lowQ, ev_cz]
theorem hasQ_len {g : List Int} (tg : Trim g) (hn : g.length ≠ 0) {lo hi : Rat} (h : hasQ (cz g) lo hi) : 1 < g.length := by
  rcases Nat.lt_or_ge 1 g.length with e | e
  · exact e
  · exfalso
    obtain ⟨c, rfl⟩ : ∃ c, g = [c] := List.length_eq_one_iff.1 (by omega)
    have hc : c ≠ 0 := by have := trim_zero tg (by simp); simpa using this
    have hv : ∀ t, ev (cz [c]) t = (c : Rat) := fun t => by rw [ev_cz]; simp only [pev]; grind
    have hs : sgnQ (c : Rat) ≠ 0 := fun h => int_ne hc (sgnQ_zero.1 h)
    unfold hasQ at h
    rw [hv, low_ne (by rw [hv]; exact hs), hv] at h
    rcases h with h | h
    · exact hs h
    · exact h rfl
theorem isz_le_pow {q : Rat} : qab q ≤ ((2 ^ isz q.num : Nat) : Rat) := by
  have h1 : isz q.num ≤ isz q.num := Nat.le_refl _
  rw [isz_le] at h1
  have e : (q.num : Rat) = q * (q.den : Rat) := by
    have : (q.num : Rat) / (((q.den : Int)) : Rat) = q := by rw [div_divInt', Rat.num_divInt_den]
    have h2 : (q.num : Rat) / (q.den : Rat) * (q.den : Rat) = q.num := Rat.div_mul_cancel (by have := nat_pos q.den_pos; grind)
    rw [show (q.num : Rat) / (q.den : Rat) = q from this] at h2; exact h2.symm
  have hd : (1 : Rat) ≤ (q.den : Rat) := by
    have : ((1 : Nat) : Rat) ≤ (q.den : Rat) := Rat.natCast_le_natCast.2 q.den_pos
    exact this
  have h2 : qab q ≤ qab (q.num : Rat) := by
    rw [e, qab_mul]
    have : qab (q.den : Rat) = (q.den : Rat) := by unfold qab; rw [if_neg (by grind)]
    rw [this]
    have := mul_mo (a := qab q) (c := 1) (qab_nn q) Rat.le_refl (by decide) hd
    grind
  rw [natAbs_qab] at h2
  exact Rat.le_trans h2 (Rat.natCast_le_natCast.2 (Nat.le_of_lt h1))
theorem width_pow {a : Tm} {w : Nat} (h : isz a.lo.num + isz a.hi.num ≤ w) : a.hi - a.lo ≤ ((2 ^ (w + 1) : Nat) : Rat) := by
  have h1 := isz_le_pow (q := a.lo)
  have h2 := isz_le_pow (q := a.hi)
  have h3 : ((2 ^ isz a.lo.num : Nat) : Rat) ≤ ((2 ^ w : Nat) : Rat) := Rat.natCast_le_natCast.2 (Nat.pow_le_pow_right (by decide) (by omega))
  have h4 : ((2 ^ isz a.hi.num : Nat) : Rat) ≤ ((2 ^ w : Nat) : Rat) := Rat.natCast_le_natCast.2 (Nat.pow_le_pow_right (by decide) (by omega))
  rw [pow2R]
  rw [qab_le] at h1 h2
  grind
theorem psize_bd' {p : List Int} {s : Nat} (h : Bd s p) : psize p ≤ s := by
  have := psize_le h p.length; rwa [List.take_length] at this
theorem steps_bd {a b : Tm} (ha : Va a) (hb : Va b) : stepsN a b ≤ 9000000 := by
  have q1 := ha.qs; have q2 := hb.qs
  have l1 := ha.n; have l2 := hb.n
  have s1 := psize_bd' ha.b; have s2 := psize_bd' hb.b
  have b1 := q1.1.1; have b2 := q1.2.1; have b3 := q2.1.1; have b4 := q2.2.1
  have : 4 * (a.p.length + b.p.length) * (psize a.p + psize b.p + (a.p.length + b.p.length) + 8) ≤ 4 * 18 * 2100 := Nat.mul_le_mul (by omega) (by omega)
  unfold stepsN; omega
theorem apart_ok {a b : Tm} (ha : Va a) (hb : Va b) (hne : ¬ TEq a b) : ∃ r, apF (stepsN a b) a b = some r ∧ ApOk a b r := by
  obtain ⟨D, M, k, h1, h2, h3⟩ := ha.hv0
  obtain ⟨D', M', k', h1', h2', h3'⟩ := hb.hv0
  have hst := steps_bd ha hb
  obtain ⟨w, hw⟩ : ∃ w, w = isz a.lo.num + isz a.hi.num + isz b.lo.num + isz b.hi.num := ⟨_, rfl⟩
  obtain ⟨K, hK⟩ : ∃ K, K = psize a.p + psize b.p + (a.p.length + b.p.length) + 8 := ⟨_, rfl⟩
  obtain ⟨n, hn⟩ : ∃ n, n = a.p.length + b.p.length := ⟨_, rfl⟩
  have l1 := ha.n2; have l2 := hb.n2
  have hsteps : stepsN a b = 64 + 2 * w + 4 * n * K := by unfold stepsN; rw [hw, hK, hn]
  have hg : gapK a.p b.p = K * (2 * (n - 2) - 1) := by unfold gapK; rw [hK, hn]
  have hgle : gapK a.p b.p + 5 * K ≤ 2 * n * K := by
    rw [hg, Nat.mul_comm K, ← Nat.add_mul]
    exact Nat.mul_le_mul_right _ (by omega)
  have hKp : 8 ≤ K := by omega
  refine ap_ok ha hb hne h2 h2' (31 + w + 2 * n * K) (stepsN a b) a b k k' ((2 ^ (w + 1) : Nat) : Rat) ?_ h1 h1' (by omega) (by omega) (width_pow (by omega)) (width_pow (by omega)) ?_
  · rw [hsteps, Nat.mul_add, Nat.mul_assoc 4, Nat.mul_assoc 2 n]; omega
  · have e : 2 * (2 ^ (w + 1)) * (2 ^ (gapK a.p b.p + 1)) ≤ 2 ^ (31 + w + 2 * n * K) := by
      rw [Nat.mul_comm 2, ← Nat.pow_succ, ← Nat.pow_add]
      exact Nat.pow_le_pow_right (by decide) (by omega)
    have := Rat.natCast_le_natCast.2 e
    push_cast at this ⊢
    exact this
theorem cmpO_ok {a b : Tm} (ha : Va a) (hb : Va b) : ∃ c, cmpO a b = some c ∧ CmpOk a b c := by
  unfold cmpO
  by_cases pa : a.point = true
  · rw [if_pos pa]
    exact ⟨_, rfl, cmp_pt hb (pt_cut ha pa)⟩
  rw [if_neg pa]
  by_cases pb : b.point = true
  · rw [if_pos pb]
    have := (cmp_pt ha (pt_cut hb pb)).symm
    rw [Int.neg_neg] at this
    exact ⟨_, rfl, this⟩
  rw [if_neg pb]
  have pa : a.point = false := by simpa using pa
  have pb : b.point = false := by simpa using pb
  obtain ⟨L, V⟩ := ha.iv pa
  obtain ⟨L', V'⟩ := hb.iv pb
  have eqa : ∀ q, cmpR a q = cq (cz a.p) a.lo a.hi q := cmpR_cq V.l
  have eqb : ∀ q, cmpR b q = cq (cz b.p) b.lo b.hi q := cmpR_cq V'.l
  obtain ⟨lo, hlo⟩ : ∃ lo, lo = if 0 < cmpQ b.lo a.lo then b.lo else a.lo := ⟨_, rfl⟩
  obtain ⟨hi, hhi⟩ : ∃ hi, hi = if cmpQ b.hi a.hi < 0 then b.hi else a.hi := ⟨_, rfl⟩
  show ∃ c, (if cmpQ (if 0 < cmpQ b.lo a.lo then b.lo else a.lo) (if cmpQ b.hi a.hi < 0 then b.hi else a.hi) < 0 then _ else _) = some c ∧ _
  rw [← hlo, ← hhi]
  have e1 : (0 < cmpQ b.lo a.lo) = (a.lo < b.lo) := propext cmpQ_gt
  have e2 : (cmpQ b.hi a.hi < 0) = (b.hi < a.hi) := propext cmpQ_lt
  have e3 : (cmpQ lo hi < 0) = (lo < hi) := propext cmpQ_lt
  simp only [e1] at hlo
  simp only [e2] at hhi
  simp only [e3]
  obtain ⟨g, g1, g2, g3, g4⟩ := gcd_ok szz9 ha.tr hb.tr ha.n hb.n ha.b hb.b (by have := ha.n2; omega)
  obtain ⟨U, W, hc⟩ := g2.c
  obtain ⟨u, hu⟩ := g2.da
  obtain ⟨u', hu'⟩ := g2.db
  have key := V.same V' (g := cz g) (u := u) (u' := u') (U := U) (W := W) (k := 1) (by decide) hu hu' (fun t => by rw [ev_cz, ev_cz, ev_cz, hc]; grind) (a := lo) (b := hi) (by rw [hlo]; split <;> grind) (by rw [hlo]; split <;> grind) (by rw [hlo]; split <;> simp) (by rw [hhi]; split <;> grind) (by rw [hhi]; split <;> grind) (by rw [hhi]; split <;> simp)
  have hTE : (∀ q, cq (cz a.p) a.lo a.hi q = cq (cz b.p) b.lo b.hi q) ↔ TEq a b := by
    unfold TEq; constructor
    · intro h q; rw [eqa, eqb]; exact h q
    · intro h q; rw [← eqa, ← eqb]; exact h q
  rw [hTE] at key
  have fin : ¬ TEq a b → ∃ c, ((apF (stepsN a b) a b).bind fun r => some r.2.2) = some c ∧ CmpOk a b c := fun hne => by
    obtain ⟨r, r1, r2⟩ := apart_ok ha hb hne
    refine ⟨r.2.2, by rw [r1]; rfl, ?_⟩
    rcases r2 with h | h
    · exact .inl h
    · exact .inr (.inr h)
  by_cases hl : lo < hi
  · rw [if_pos hl, g1]
    show ∃ c, (if 1 < g.length ∧ hasR g lo hi = true then some 0 else (apF (stepsN a b) a b).bind fun r => some r.2.2) = some c ∧ _
    by_cases hh : hasR g lo hi = true
    · have hq := (hasR_iff g lo hi).1 hh
      rw [if_pos ⟨hasQ_len g2.t g2.n hq, hh⟩]
      exact ⟨0, rfl, .inr (.inl ⟨rfl, key.1 ⟨hl, hq⟩⟩)⟩
    · rw [if_neg fun h => hh h.2]
      exact fin fun h => hh ((hasR_iff g lo hi).2 (key.2 h).2)
  · rw [if_neg hl]
    exact fin fun h => hl (key.2 h).1
/-! ### signs at a time -/
/-- p has the sign s at a time -/
def SgT (p : List Int) (a : Tm) (s : Int) : Prop := s = 0 ∧ Van (cz p) (cmpR a) ∨ s ≠ 0 ∧ NZ (cz p) (cmpR a) s
theorem sgT_at {p : List Int} {c : Rat → Int} (hc : Cut c) {x : Rat} (h : c x = 0) : psign p x = 0 ∧ Van (cz p) c ∨ psign p x ≠ 0 ∧ NZ (cz p) c (psign p x) := by
  rw [psign_ev, ← ev_cz]
  rcases van_or hc (cz p) with h1 | ⟨s, hs, h1⟩
  · exact .inl ⟨sgnQ_zero.2 (van_at hc h h1), h1⟩
  · have := nz_at hc h h1
    rw [this]; exact .inr ⟨hs, h1⟩
theorem between_eq {l : List (List Int)} {lo hi : Rat} (h : lo ≤ hi) : between l lo hi = (vv (l.map cz) lo : Int) - (vv (l.map cz) hi : Int) := by
  unfold between
  rw [if_neg fun h' => by have := cmpQ_lt.1 h'; grind, turnsAt_vv, turnsAt_vv]
/-- a place where p is not 0: after so many halvings no root of p is left -/
theorem sg_gap {p q : List Int} {L : List (List Rat)} (hp : Trim p) (np : p.length ≤ 9) (lp : 2 ≤ p.length) (hS : Stm (cz q) L) (hpq : Dvd (cz q) (cz p)) {a : Tm} (ha : Va a) {s : Int} (hnz : NZ (cz p) (cmpR a) s) {D M k : Nat} {x : Tm} (hx : Hv a D M k x) (hl : x.lo < x.hi) (hv : vv L x.lo ≠ vv L x.hi) : 1 < (x.hi - x.lo) * ((2 ^ (gapK a.p p + 1) : Nat) : Rat) := by
  rcases le_or ((x.hi - x.lo) * ((2 ^ (gapK a.p p + 1) : Nat) : Rat)) 1 with hw | hw
  · exfalso
    have ca := ha.cut
    obtain ⟨d, dp, x1, y1, c1, c2, hn⟩ := hnz
    obtain ⟨x2, x12, c3⟩ := ca.up x1 c1
    obtain ⟨y2, y12, c4⟩ := ca.dn y1 c2
    have hpow : (0 : Rat) ≤ ((2 ^ (gapK a.p p + 1) : Nat) : Rat) := Rat.natCast_nonneg
    obtain ⟨z, zp, z1, z2⟩ := min2 (a := x2 - x1) (b := y1 - y2) (by clear hn; grind) (by clear hn; grind)
    obtain ⟨R0, hR0, r1, r2⟩ := Rmax x.lo x.hi
    obtain ⟨u, hu⟩ := hpq
    refine gap_T (R := R0 + 1) (d := z) ha.tr hp ha.n np ha.n2 lp (by clear hn; grind) zp fun e ep => ?_
    -- q near a
    obtain ⟨q0, q1, q2, q3, q4, q5⟩ : ∃ q0, x.lo ≤ q0 ∧ q0 ≤ x.hi ∧ x2 ≤ q0 ∧ q0 ≤ y2 ∧ qab (pev a.p q0) < e := by
      rcases hx.lo' with h1 | ⟨h1, h2⟩
      · obtain ⟨x', y', hx', hy', hq⟩ := ha.van e ep
        obtain ⟨m, m1, m2, m3, m4⟩ : ∃ m, cmpR a m = 1 ∧ x.lo ≤ m ∧ x2 ≤ m ∧ x' ≤ m := by
          rcases le_or x.lo x2 with e1 | e1
          · rcases le_or x2 x' with e2 | e2
            · exact ⟨x', hx', by clear hn hq; grind, e2, Rat.le_refl⟩
            · exact ⟨x2, c3, e1, Rat.le_refl, Rat.le_of_lt e2⟩
          · rcases le_or x.lo x' with e2 | e2
            · exact ⟨x', hx', e2, by clear hn hq; grind, Rat.le_refl⟩
            · exact ⟨x.lo, h1, Rat.le_refl, Rat.le_of_lt e1, Rat.le_of_lt e2⟩
        refine ⟨m, m2, ?_, m3, Rat.le_of_lt (ca.lt m1 c4), by rw [← ev_cz]; exact hq m m4 (Rat.le_of_lt (ca.lt m1 hy'))⟩
        rcases hx.hi' with h3 | h3
        · rcases le_or m x.hi with e1 | e1
          · exact e1
          · have := ca.mono x.hi m e1 (by omega); omega
        · exact Rat.le_of_lt (ca.lt m1 h3)
      · exact absurd h2 (by clear hn; grind)
    -- r, a root of p nearly, within the interval
    obtain ⟨b, hb⟩ : ∃ b, b = evB R0 u := ⟨_, rfl⟩
    have hb0 : 0 ≤ b := by rw [hb]; exact evB_nn hR0 u
    obtain ⟨f, fp, _, hf⟩ := small_ex (b := b) (d := if e ≤ d then e else d) hb0 (by split <;> assumption)
    obtain ⟨r, r3, r4, r5⟩ := turned hS hl hv fp
    have hrR : qab r ≤ R0 := in_R r1 r2 r3 r4
    have hpr : qab (pev p r) < (if e ≤ d then e else d) := by
      rw [← ev_cz, hu]
      have := qab_mul_le (Rat.le_of_lt r5) (ev_bd hrR u)
      rw [← hb] at this
      exact Rat.not_le.1 fun h => absurd (Rat.le_trans h this) (Rat.not_le.2 hf)
    have hpe : qab (pev p r) < e := by split at hpr <;> (clear hn; grind)
    have hpd : qab (pev p r) < d := by split at hpr <;> (clear hn; grind)
    have hrout : r < x1 ∨ y1 < r := by
      rcases le_or x1 r with e1 | e1
      · rcases le_or r y1 with e2 | e2
        · have := (hn r e1 e2).2
          rw [ev_cz] at this
          exact absurd this (Rat.not_le.2 hpd)
        · exact .inr e2
      · exact .inl e1
    have hqr : z ≤ qab (q0 - r) := by
      clear hn
      rcases hrout with h | h
      · have : qab (q0 - r) = q0 - r := by unfold qab; split <;> grind
        rw [this]; grind
      · have : qab (q0 - r) = r - q0 := by unfold qab; split <;> grind
        rw [this]; grind
    have hq0R : qab q0 ≤ R0 := in_R r1 r2 q1 q2
    refine ⟨q0, r, by clear hn; grind, by clear hn; grind, hqr, ?_, q5, hpe⟩
    have h1 : qab (q0 - r) ≤ x.hi - x.lo := by rw [qab_le]; clear hn; constructor <;> grind
    exact Rat.le_trans (Rat.mul_le_mul_of_nonneg_right h1 hpow) hw
  · exact hw
/-- the loop of Sign -/
theorem sgF_ok {p q : List Int} {l : List (List Int)} (hp : Trim p) (np : p.length ≤ 9) (lp : 2 ≤ p.length) (hS : Stm (cz q) (l.map cz)) (hpq : Dvd (cz q) (cz p)) {a : Tm} (ha : Va a) {s : Int} (hnz : NZ (cz p) (cmpR a) s) {D M : Nat} (hM : 0 < M) : ∀ (j i : Nat) (x : Tm) (k : Nat) (W : Rat), i + 1 ≤ j → Hv a D M k x → isz (D : Int) + isz (M : Int) + (k + j) ≤ 16777216 → x.hi - x.lo ≤ W → W * ((2 ^ (gapK a.p p + 1) : Nat) : Rat) ≤ ((2 ^ i : Nat) : Rat) → ∃ u k', sgF l j x = some u ∧ Hv a D M k' u ∧ (u.point = true ∨ between l u.lo u.hi = 0)
  | 0, i, x, k, W, h, _, _, _, _ => by omega
  | j + 1, i, x, k, W, hj, hx, hs, hW, hK => by
    simp only [sgF]
    by_cases h : x.point = true ∨ between l x.lo x.hi = 0
    · rw [if_pos h]; exact ⟨x, k, rfl, hx, h⟩
    · rw [if_neg h]
      obtain ⟨v, v1, v2, v3, _⟩ := half_ok hx hM (by omega)
      rw [v1]
      show ∃ u k', sgF l j v = some u ∧ _
      have hpt : ¬ x.hi ≤ x.lo := fun h' => h (.inl (point_iff.2 h'))
      have hl : x.lo < x.hi := by grind
      have hvv : vv (l.map cz) x.lo ≠ vv (l.map cz) x.hi := fun h' => h (.inr (by rw [between_eq (Rat.le_of_lt hl)]; omega))
      have hg := sg_gap hp np lp hS hpq ha hnz hx hl hvv
      have hpow : (0 : Rat) ≤ ((2 ^ (gapK a.p p + 1) : Nat) : Rat) := Rat.natCast_nonneg
      have hd : ∀ x : Rat, x / 2 * 2 = x := fun x => div_mul (by decide)
      cases i with
      | zero =>
        exfalso
        rw [Nat.pow_zero] at hK
        have := Rat.mul_le_mul_of_nonneg_right hW hpow
        have h7 : ((1 : Nat) : Rat) = 1 := rfl
        rw [h7] at hK
        grind
      | succ i =>
        refine sgF_ok hp np lp hS hpq ha hnz hM j i v (k + 1) (W / 2) (by omega) v2 (by omega) ?_ ?_
        · have := hd (x.hi - x.lo); have := hd W; grind
        · rw [pow2R i] at hK
          have := hd W
          have : W / 2 * ((2 ^ (gapK a.p p + 1) : Nat) : Rat) * 2 = W * ((2 ^ (gapK a.p p + 1) : Nat) : Rat) := by grind
          grind
theorem pall_sgn {x y : Rat} : ∀ {ws : List (List Rat)}, (∀ w ∈ ws, sgnQ (ev w x) = sgnQ (ev w y)) → sgnQ (ev (pall ws) x) = sgnQ (ev (pall ws) y)
  | [], _ => by simp only [pall]; rw [ev_one, ev_one]
  | w :: l, h => by
    simp only [pall]
    rw [ev_qmul, ev_qmul, sgnQ_mul, sgnQ_mul, h w (List.mem_cons_self ..), pall_sgn fun v hv => h v (List.mem_cons_of_mem _ hv)]
/-- where its part without multiple roots has no root, p keeps its sign -/
theorem parts_sgn {p q o : List Int} (hpt : Parts p q o) (tp : Trim p) (hp : p.length ≠ 0) {L : List (List Rat)} (hS : Stm (cz q) L) {x y : Rat} (hxy : x < y) (hv : vv L x = vv L y) : ∃ s, s ≠ 0 ∧ ∀ z, x < z → z ≤ y → sgnQ (pev p z) = s := by
  obtain ⟨ws, w1, w2⟩ := hpt.ws
  obtain ⟨_, _, _, _, _, p6, p7⟩ := prime_ok tp hp
  have key : ∀ z, x < z → z ≤ y → ∀ w ∈ ws.map cz, Sm w x z := fun z h1 h2 w hw => by
    obtain ⟨v, hv', rfl⟩ := List.mem_map.1 hw
    obtain ⟨u, hu⟩ := (w1 v hv').2
    have a1 := vv_le hS h1
    have a2 : vv L y ≤ vv L z := by
      rcases Classical.em (z = y) with e | e
      · rw [e]; exact Nat.le_refl _
      · exact vv_le hS (by grind)
    exact vv_sm hS hu h1 (by omega)
  have hval : ∀ z, pev p z = (pfac p : Rat) * ev (pall (ws.map cz)) z := fun z => by rw [p7, w2]
  refine ⟨sgnQ (pev p y), fun h0 => ?_, fun z h1 h2 => ?_⟩
  · rw [hval, sgnQ_mul] at h0
    rcases Int.mul_eq_zero.1 h0 with h | h
    · exact int_ne p6 (sgnQ_zero.1 h)
    · have : ∀ l : List (List Rat), (∀ w ∈ l, sgnQ (ev w y) ≠ 0) → sgnQ (ev (pall l) y) ≠ 0 := by
        intro l
        induction l with
        | nil => intro _; simp only [pall]; rw [ev_one]; decide
        | cons w l ih =>
          intro h
          simp only [pall]
          rw [ev_qmul, sgnQ_mul]
          exact Int.mul_ne_zero (h w (List.mem_cons_self ..)) (ih fun v hv => h v (List.mem_cons_of_mem _ hv))
      refine this _ (fun w hw => ?_) h
      have hs := key y hxy Rat.le_refl w hw
      rw [hs.s]; exact hs.n
  · rw [hval, hval, sgnQ_mul, sgnQ_mul, pall_sgn (y := y) fun w hw => (key z h1 h2 w hw).s.trans (key y hxy Rat.le_refl w hw).s.symm]
theorem gc_van {g p P : List Int} {c : Rat → Int} (hc : Cut c) (hg : Gc g p P) : Van (cz g) c ↔ Van (cz p) c ∧ Van (cz P) c := by
  constructor
  · intro h
    obtain ⟨u, hu⟩ := hg.da
    obtain ⟨v, hv⟩ := hg.db
    exact ⟨van_mul hc hu h, van_mul hc hv h⟩
  · rintro ⟨h1, h2⟩
    obtain ⟨U, V, hcc⟩ := hg.c
    have a1 : Van (qmul U (cz p)) c := van_mul hc (p := cz p) (q := U) (fun t => by rw [ev_qmul]; grind) h1
    have a2 : Van (qmul V (cz P)) c := van_mul hc (p := cz P) (q := V) (fun t => by rw [ev_qmul]; grind) h2
    exact van_add (fun t => by rw [ev_cz, hcc, ev_qmul, ev_qmul, ev_cz, ev_cz]) a1 a2
theorem signO_ok {p : List Int} (hp : Okp 9 900 p) {a : Tm} (ha : Va a) : ∃ s, signO p a = some s ∧ SgT p a s := by
  unfold signO
  rw [if_neg hp.nz]
  have ca := ha.cut
  by_cases pa : a.point = true
  · rw [if_pos pa]
    exact ⟨_, rfl, sgT_at ca (x := a.lo) (by rw [pt_cut ha pa, cmpQ_self])⟩
  rw [if_neg pa]
  have pa : a.point = false := by simpa using pa
  obtain ⟨L, V⟩ := ha.iv pa
  have eqa : ∀ q, cmpR a q = cq (cz a.p) a.lo a.hi q := cmpR_cq V.l
  obtain ⟨g, g1, g2, g3, g4⟩ := gcd_ok szz9 hp.t ha.tr hp.l ha.n (bd_mono hp.b (by omega)) ha.b hp.nz
  obtain ⟨u', hu'⟩ := g2.db
  have hhas := V.has hu' (a := a.lo) (b := a.hi) Rat.le_refl V.l Rat.le_refl
  have hvan := gc_van ca g2
  rw [show cq (cz a.p) a.lo a.hi = cmpR a from (funext eqa).symm] at hhas
  rw [g1]
  show ∃ s, (if 1 < g.length ∧ hasR g a.lo a.hi = true then some 0 else _) = some s ∧ _
  by_cases hh : hasR g a.lo a.hi = true
  · have hq := (hasR_iff g _ _).1 hh
    rw [if_pos ⟨hasQ_len g2.t g2.n hq, hh⟩]
    exact ⟨0, rfl, .inl ⟨rfl, (hvan.1 (hhas.1 hq).1).1⟩⟩
  · rw [if_neg fun h => hh h.2]
    have hnv : ¬ Van (cz p) (cmpR a) := fun h => hh ((hasR_iff g _ _).2 (hhas.2 ⟨hvan.2 ⟨h, ha.van⟩, by rw [eqa]; exact cq_lo Rat.le_refl, by rw [eqa]; exact V.hi1⟩))
    rcases van_or ca (cz p) with h | ⟨s, hs0, hnz⟩
    · exact absurd h hnv
    obtain ⟨q, o, q1, q2, hpt⟩ := odd_ok hp
    obtain ⟨q', l, r1, r2, hS, hl0⟩ := chain_ok hp
    rw [q1] at r1
    injection r1 with r1
    subst r1
    rw [r2]
    show ∃ s, ((sgF (q :: l) (64 + 2 * (isz a.lo.num + isz a.hi.num) + 4 * (a.p.length + p.length) * (psize a.p + psize p + (a.p.length + p.length) + 8)) a).bind fun x => some (psign p x.hi)) = some s ∧ _
    obtain ⟨w, hw⟩ : ∃ w, w = isz a.lo.num + isz a.hi.num := ⟨_, rfl⟩
    obtain ⟨K, hK⟩ : ∃ K, K = psize a.p + psize p + (a.p.length + p.length) + 8 := ⟨_, rfl⟩
    obtain ⟨n, hn⟩ : ∃ n, n = a.p.length + p.length := ⟨_, rfl⟩
    rw [← hw, ← hK, ← hn]
    obtain ⟨gg, sq⟩ := hpt.sq
    obtain ⟨_, _, _, _, _, pf0, pfe⟩ := prime_ok hp.t hp.nz
    have hpq : Dvd (cz q) (cz p) := ⟨qsc (pfac p) (cz gg), fun t => by rw [ev_cz, ev_cz, ev_qsc, ev_cz, pfe, sq.e]; grind⟩
    obtain ⟨D, M, k, h1, h2, h3⟩ := ha.hv0
    have b1 := ha.qs.1.1; have b2 := ha.qs.2.1
    have l1 := ha.n; have l2 := hp.l; have l3 := ha.n2
    have s1 := psize_bd' ha.b; have s2 := psize_bd' hp.b
    have hst : 4 * n * K ≤ 4 * 18 * 1926 := Nat.mul_le_mul (by omega) (by omega)
    -- the loop ends
    have hend : ∃ u k', sgF (q :: l) (64 + 2 * w + 4 * n * K) a = some u ∧ Hv a D M k' u ∧ (u.point = true ∨ between (q :: l) u.lo u.hi = 0) := by
      by_cases hpl : p.length < 2
      · have hq1 : (prime p) = [1] := hp.pr.1.one (by have := hp.pr.2.1; omega)
        have hql : q.length < 2 := by
          have e := sq.e
          rw [hq1] at e
          obtain ⟨p1, p2⟩ := pos_of_mul (c := [1]) rfl (by simp) e
          have := len_mul sq.pg.t sq.pq.t (c := [1]) rfl e p1 p2
          simp at this; omega
        have hbt : between (q :: l) a.lo a.hi = 0 := by
          rw [between_eq (Rat.le_of_lt V.l), hl0 hql, sq.pq.one hql]
          have hv1 : ∀ x : Rat, ev (cz [1]) x = 1 := fun x => by rw [ev_cz, pev_one]
          simp only [List.map_cons, List.map_nil, vv, tc, hv1]; omega
        refine ⟨a, k, ?_, h1, .inr hbt⟩
        obtain ⟨m, hm⟩ : ∃ m, 64 + 2 * w + 4 * n * K = m + 1 := ⟨63 + 2 * w + 4 * n * K, by omega⟩
        rw [hm]
        simp only [sgF]
        rw [if_pos (.inr hbt)]
      · have hg : gapK a.p p = K * (2 * (n - 2) - 1) := by unfold gapK; rw [hK, hn]
        have hgle : gapK a.p p + 5 * K ≤ 2 * n * K := by
          rw [hg, Nat.mul_comm K, ← Nat.add_mul]
          exact Nat.mul_le_mul_right _ (by omega)
        have hKp : 8 ≤ K := by omega
        have hnK : 2 * n * K ≤ 4 * n * K := Nat.mul_le_mul_right _ (by omega)
        obtain ⟨u, k', u1, u2, u3⟩ := sgF_ok hp.t hp.l (by omega) hS hpq ha hnz h2 (64 + 2 * w + 4 * n * K) (2 + w + 2 * n * K) a k ((2 ^ (w + 1) : Nat) : Rat) (by omega) h1 (by omega) (width_pow (by omega)) (by
          have e : (2 ^ (w + 1)) * (2 ^ (gapK a.p p + 1)) ≤ 2 ^ (2 + w + 2 * n * K) := by
            rw [← Nat.pow_add]
            exact Nat.pow_le_pow_right (by decide) (by omega)
          have := Rat.natCast_le_natCast.2 e
          push_cast at this ⊢
          exact this)
        exact ⟨u, k', u1, u2, u3⟩
    obtain ⟨u, k', u1, u2, u3⟩ := hend
    rw [u1]
    refine ⟨_, rfl, .inr ?_⟩
    have hfin : psign p u.hi = s := by
      rcases u2.hi' with hz | hz
      · have := nz_at ca hz hnz
        rw [psign_ev, ← ev_cz]; exact this
      · rcases u2.i with ⟨e, _⟩ | ⟨L', V'⟩
        · have := u2.c u.hi
          rw [cmpR_pt e, e, cmpQ_self] at this; omega
        · have hup : u.point = false := by
            have : ¬ u.point = true := fun h => by have := point_iff.1 h; have := V'.l; grind
            simpa using this
          rcases u3 with h | h
          · rw [hup] at h; cases h
          · rw [between_eq (Rat.le_of_lt V'.l)] at h
            obtain ⟨s', hs', hps⟩ := parts_sgn hpt hp.t hp.nz hS V'.l (by omega)
            obtain ⟨d, dp, x, y, hx, hy, hq⟩ := hnz
            have hlo1 : cmpR a u.lo = 1 := by
              rcases u2.lo' with h | ⟨_, h⟩
              · exact h
              · have := V'.l; clear hps hq; grind
            obtain ⟨m, m1, m2, m3⟩ := cut_lf ca hlo1 hx
            have e1 := (hq m (Rat.le_of_lt m3) (Rat.le_of_lt (ca.lt m1 hy))).1
            have e2 := hps m m2 (Rat.le_of_lt (ca.lt m1 hz))
            have e3 := hps u.hi V'.l Rat.le_refl
            rw [psign_ev, e3, ← e2, ← ev_cz, e1]
    rw [hfin]; exact ⟨hs0, hnz⟩
end Orq

namespace Orq
open Orr Go
/-! ### signs just behind a time -/
/-- small enough, with all its derivatives -/
structure Dp (p : List Int) : Prop where
  t : Trim p
  l : p.length ≤ 9
  b : Bd (860 + 4 * (9 - p.length)) p
theorem okp_szz : Szz 9 973 := ⟨by decide, by decide⟩
theorem Dp.ok {p : List Int} (h : Dp p) (h0 : p.length ≠ 0) : Okp 9 900 p := ⟨okp_szz, h.t, h0, h.l, bd_mono h.b (by omega)⟩
theorem Dp.der {p : List Int} (h : Dp p) : Dp (pder p) := by
  have hl := len_pder p
  have hl2 := h.l
  refine ⟨each_trim _ _, by omega, ?_⟩
  by_cases h0 : p.length = 0
  · rw [List.eq_nil_of_length_eq_zero (l := pder p) (by omega)]; exact bd_nil
  · exact bd_mono (bd_der h.b (by omega)) (by omega)
def sgA (a : Tm) (p : List Int) : Int := (signO p a).getD 0
theorem sgA_ok {p : List Int} (h : Dp p) {a : Tm} (ha : Va a) : signO p a = some (sgA a p) ∧ SgT p a (sgA a p) := by
  by_cases h0 : p.length = 0
  · have e : p = [] := List.eq_nil_of_length_eq_zero h0
    subst e
    refine ⟨rfl, .inl ⟨rfl, fun d dp => ?_⟩⟩
    obtain ⟨x, y, h1, h2, _⟩ := ha.cut.near (e := 1) (by decide)
    exact ⟨x, y, h1, h2, fun q _ _ => by simp only [cz, List.map_nil, ev, qab_zero]; exact dp⟩
  · obtain ⟨s, h1, h2⟩ := signO_ok (h.ok h0) ha
    have e : sgA a p = s := by unfold sgA; rw [h1]; rfl
    rw [e]; exact ⟨h1, h2⟩
theorem rs_ext {c : Rat → Int} {p q : List Rat} {s : Int} (h : ∀ t, ev p t = ev q t) (hp : RS p c s) : RS q c s := by
  obtain ⟨y, h1, h2⟩ := hp
  exact ⟨y, h1, fun z h3 h4 => by rw [← h]; exact h2 z h3 h4⟩
theorem gfirst_rs {a : Tm} (ha : Va a) : ∀ (k : Nat) (p : List Int), Dp p → p.length ≤ k → p.length ≠ 0 → RS (cz p) (cmpR a) (gfirst (sgA a) k p) ∧ gfirst (sgA a) k p ≠ 0
  | 0, p, _, h1, h2 => by omega
  | k + 1, p, h, h1, h2 => by
    simp only [gfirst]
    rw [if_neg h2]
    obtain ⟨_, hs⟩ := sgA_ok h ha
    rcases hs with ⟨e, hv⟩ | ⟨e, hn⟩
    · rw [if_pos e]
      have hdn : (pder p).length ≠ 0 := fun h0 => by
        -- then p is a number that is not 0
        by_cases h3 : p.length = 1
        · obtain ⟨c, rfl⟩ : ∃ c, p = [c] := List.length_eq_one_iff.1 h3
          have hc : c ≠ 0 := by have := trim_zero h.t (by simp); simpa using this
          obtain ⟨q, hq, _⟩ := nr_ex ha.cut (hv (qab (c : Rat)) (qab_pos (int_ne hc)))
          rw [ev_cz] at hq
          have : pev [c] q = (c : Rat) := by simp only [pev]; grind
          rw [this] at hq; grind
        · have h4 := pder_getD p (p.length - 2)
          rw [List.eq_nil_of_length_eq_zero h0, show p.length - 2 + 1 = p.length - 1 by omega] at h4
          have h5 : p.getD (p.length - 1) 0 ≠ 0 := trim_zero h.t (by omega)
          rcases Int.mul_eq_zero.1 (h4.symm.trans (by simp)) with h6 | h6
          · exact h5 h6
          · omega
      have hl := len_pder p
      obtain ⟨i1, i2⟩ := gfirst_rs ha k (pder p) h.der (by omega) hdn
      exact ⟨rs_der ha.cut hv (rs_ext (fun t => by rw [ev_cz, pev_pder, ev_qder]) i1) i2, i2⟩
    · rw [if_neg e]; exact ⟨rs_nz ha.cut hn, e⟩
/-- germ.At is the sign just behind -/
theorem germ_rs {a : Tm} (ha : Va a) {p : List Int} (h : Dp p) (h0 : p.length ≠ 0) : RS (cz p) (cmpR a) (germ (sgA a) p) ∧ germ (sgA a) p ≠ 0 := gfirst_rs ha _ p h (Nat.le_refl _) h0
theorem germ_nil {a : Tm} : germ (sgA a) [] = 0 := rfl
/-! ### a bound of all roots -/
theorem most_le {l : List Int} : ∀ z ∈ l, z.natAbs ≤ most l := by
  have key : ∀ (l : List Int) (m : Nat), m ≤ l.foldl (fun m z => if m < z.natAbs then z.natAbs else m) m ∧ ∀ z ∈ l, z.natAbs ≤ l.foldl (fun m z => if m < z.natAbs then z.natAbs else m) m := by
    intro l
    induction l with
    | nil => exact fun m => ⟨Nat.le_refl _, fun z hz => by cases hz⟩
    | cons y l ih =>
      intro m
      obtain ⟨e, he⟩ : ∃ e, e = if m < y.natAbs then y.natAbs else m := ⟨_, rfl⟩
      have h1 : m ≤ e ∧ y.natAbs ≤ e := by rw [he]; split <;> omega
      obtain ⟨i1, i2⟩ := ih e
      simp only [List.foldl_cons]
      rw [← he]
      refine ⟨by omega, fun z hz => ?_⟩
      rcases List.mem_cons.1 hz with rfl | hz
      · omega
      · exact i2 z hz
  exact (key l 0).2
theorem bound_eq {p : List Int} (h : lead p ≠ 0) : bound p * ((lead p).natAbs : Rat) = ((lead p).natAbs : Rat) + ((most (p.take (p.length - 1)) : Nat) : Rat) := by
  unfold bound
  rw [← div_divInt']
  have hp : 0 < (lead p).natAbs := by omega
  have := nat_pos hp
  rw [show ((((lead p).natAbs : Int)) : Rat) = ((lead p).natAbs : Rat) from rfl, div_mul this]
  rw [Rat.intCast_add]; rfl
/-- far out, the leading term tells the sign -/
theorem far_out {m : Nat} {x : Rat} (hx : 1 ≤ qab x) : ∀ (p : List Int) (lp : p.length ≠ 0), (∀ z ∈ p.take (p.length - 1), z.natAbs ≤ m) → lead p ≠ 0 → (m : Rat) ≤ (qab x - 1) * ((lead p).natAbs : Rat) → ((lead p).natAbs : Rat) ≤ pev p x * (((Int.sign (lead p)) * (if x < 0 ∧ p.length % 2 = 0 then -1 else 1) : Int) : Rat)
  | [], lp, _, _, _ => absurd rfl lp
  | [c], _, _, hc, _ => by
    have hl : lead [c] = c := rfl
    rw [hl] at hc ⊢
    rw [if_neg (by simp), Int.mul_one]
    have h1 : pev [c] x = (c : Rat) := by simp only [pev]; grind
    rw [h1]
    have h2 : c * Int.sign c = (c.natAbs : Int) := Int.mul_sign_self c
    have := congrArg (fun z : Int => (z : Rat)) h2
    rw [Rat.intCast_mul] at this
    rw [this]; exact Rat.le_refl
  | c :: d :: p, _, hm, hc, hb => by
    have hl : lead (c :: d :: p) = lead (d :: p) := by unfold lead; simp [List.getD_cons_succ]
    have ih := far_out hx (d :: p) (by simp) (fun z hz => hm z (by
      have e : (c :: d :: p).take ((c :: d :: p).length - 1) = c :: (d :: p).take ((d :: p).length - 1) := by simp
      rw [e]; exact List.mem_cons_of_mem _ hz)) (by rw [← hl]; exact hc) (by rw [← hl]; exact hb)
    rw [hl] at hc hb ⊢
    have hcm := hm c (by simp)
    obtain ⟨s, hs⟩ : ∃ s : Int, s = Int.sign (lead (d :: p)) := ⟨_, rfl⟩
    have hsv : s = 1 ∨ s = -1 := by
      rw [hs]
      rcases Int.lt_or_lt_of_ne hc with h | h
      · exact .inr (Int.sign_eq_neg_one_of_neg h)
      · exact .inl (Int.sign_eq_one_of_pos h)
    rw [← hs] at ih ⊢
    obtain ⟨ld, hld⟩ : ∃ ld : Rat, ld = ((lead (d :: p)).natAbs : Rat) := ⟨_, rfl⟩
    rw [← hld] at ih hb ⊢
    have hcq : qab (c : Rat) ≤ (m : Rat) := by rw [natAbs_qab]; exact Rat.natCast_le_natCast.2 hcm
    rw [qab_le] at hcq
    have e1 : pev (c :: d :: p) x = (c : Rat) + x * pev (d :: p) x := rfl
    rw [e1]
    have hlen : (c :: d :: p).length % 2 = 0 ↔ ¬ (d :: p).length % 2 = 0 := by simp only [List.length_cons]; omega
    generalize pev (d :: p) x = y at *
    generalize (m : Rat) = mm at *
    generalize (c : Rat) = cc at *
    have hx0 := hx
    by_cases hneg : x < 0
    · have hq : qab x = -x := by unfold qab; rw [if_pos hneg]
      rw [hq] at hx0 hb
      by_cases hpar : (d :: p).length % 2 = 0
      · rw [if_pos ⟨hneg, hpar⟩] at ih
        rw [if_neg fun h => (hlen.1 h.2) hpar]
        rcases hsv with rfl | rfl
        · have ih : ld ≤ y * (-1) := by simpa using ih
          have := Rat.mul_le_mul_of_nonneg_left ih (show 0 ≤ -x by grind)
          have e : (((1 : Int) * 1 : Int) : Rat) = 1 := rfl
          rw [e]; grind
        · have ih : ld ≤ y * 1 := by simpa using ih
          have := Rat.mul_le_mul_of_nonneg_left ih (show 0 ≤ -x by grind)
          have e : (((-1 : Int) * 1 : Int) : Rat) = -1 := rfl
          rw [e]; grind
      · rw [if_neg fun h => hpar h.2] at ih
        rw [if_pos ⟨hneg, hlen.2 hpar⟩]
        rcases hsv with rfl | rfl
        · have ih : ld ≤ y * 1 := by simpa using ih
          have := Rat.mul_le_mul_of_nonneg_left ih (show 0 ≤ -x by grind)
          have e : (((1 : Int) * -1 : Int) : Rat) = -1 := rfl
          rw [e]; grind
        · have ih : ld ≤ y * (-1) := by simpa using ih
          have := Rat.mul_le_mul_of_nonneg_left ih (show 0 ≤ -x by grind)
          have e : (((-1 : Int) * -1 : Int) : Rat) = 1 := rfl
          rw [e]; grind
    · have hq : qab x = x := by unfold qab; rw [if_neg hneg]
      rw [hq] at hx0 hb
      rw [if_neg fun h => hneg h.1] at ih ⊢
      rcases hsv with rfl | rfl
      · have ih : ld ≤ y * 1 := by simpa using ih
        have := Rat.mul_le_mul_of_nonneg_left ih (show 0 ≤ x by grind)
        have e : (((1 : Int) * 1 : Int) : Rat) = 1 := rfl
        rw [e]; grind
      · have ih : ld ≤ y * (-1) := by simpa using ih
        have := Rat.mul_le_mul_of_nonneg_left ih (show 0 ≤ x by grind)
        have e : (((-1 : Int) * 1 : Int) : Rat) = -1 := rfl
        rw [e]; grind
/-- beyond the bound -/
theorem beyond {p : List Int} (tp : Trim p) (lp : p.length ≠ 0) {x : Rat} (hx : bound p ≤ qab x) : 1 ≤ qab (pev p x) ∧ (0 ≤ x → psign p x = endP p) ∧ (x < 0 → psign p x = endM p) := by
  have hl := lead_ne tp lp
  have hpos : 0 < (lead p).natAbs := by omega
  have h1 : (1 : Rat) ≤ ((lead p).natAbs : Rat) := by
    have : ((1 : Nat) : Rat) ≤ ((lead p).natAbs : Rat) := Rat.natCast_le_natCast.2 hpos
    exact this
  have hm0 : (0 : Rat) ≤ ((most (p.take (p.length - 1)) : Nat) : Rat) := Rat.natCast_nonneg
  have hb := bound_eq hl
  have hx1 := Rat.mul_le_mul_of_nonneg_right hx (show (0 : Rat) ≤ ((lead p).natAbs : Rat) by grind)
  have hx2 : 1 ≤ qab x := by
    rcases le_or 1 (qab x) with h | h
    · exact h
    · exfalso
      have := Rat.mul_lt_mul_of_pos_right h (show (0 : Rat) < ((lead p).natAbs : Rat) by grind)
      grind
  have key := far_out (m := most (p.take (p.length - 1))) hx2 p lp (fun z hz => most_le z hz) hl (by grind)
  obtain ⟨s, hs⟩ : ∃ s : Int, s = Int.sign (lead p) * (if x < 0 ∧ p.length % 2 = 0 then -1 else 1) := ⟨_, rfl⟩
  rw [← hs] at key
  have hsv : s = 1 ∨ s = -1 := by
    rw [hs]
    rcases Int.lt_or_lt_of_ne hl with h | h
    · rw [Int.sign_eq_neg_one_of_neg h]; split <;> simp
    · rw [Int.sign_eq_one_of_pos h]; split <;> simp
  have hsg : psign p x = s ∧ 1 ≤ qab (pev p x) := by
    rw [psign_ev]
    rcases hsv with e | e
    · rw [e] at key ⊢
      have key : ((lead p).natAbs : Rat) ≤ pev p x := by simpa using key
      exact ⟨sgnQ_pos.2 (by grind), by unfold qab; rw [if_neg (by grind)]; grind⟩
    · rw [e] at key ⊢
      have key : ((lead p).natAbs : Rat) ≤ pev p x * (-1) := by simpa using key
      exact ⟨sgnQ_neg.2 (by grind), by unfold qab; rw [if_pos (by grind)]; grind⟩
  refine ⟨hsg.2, fun h => ?_, fun h => ?_⟩
  · rw [hsg.1, hs, if_neg fun h' => by have := h'.1; grind]; unfold endP; omega
  · rw [hsg.1, hs]; unfold endM
    by_cases he : p.length % 2 = 0
    · rw [if_pos ⟨h, he⟩, if_pos he]; omega
    · rw [if_neg fun h' => he h'.2, if_neg he]; omega
theorem turns_congr {f g : List Int → Int} : ∀ {l : List (List Int)} (s : Nat × Int), (∀ p ∈ l, f p = g p) → l.foldl (turnF f) s = l.foldl (turnF g) s
  | [], s, _ => rfl
  | p :: l, s, h => by
    simp only [List.foldl_cons]
    have e : turnF f s p = turnF g s p := by unfold turnF; rw [h p (List.mem_cons_self ..)]
    rw [e]; exact turns_congr _ fun q hq => h q (List.mem_cons_of_mem _ hq)
/-- signs far below and far above -/
theorem ends_ok : ∀ (l : List (List Int)), (∀ p ∈ l, Trim p ∧ p.length ≠ 0) → ∃ X : Rat, 0 < X ∧ ∀ x, X ≤ x → (∀ p ∈ l, psign p x = endP p) ∧ ∀ p ∈ l, psign p (-x) = endM p
  | [], _ => ⟨1, by decide, fun x _ => ⟨(fun p hp => by cases hp), (fun p hp => by cases hp)⟩⟩
  | p :: l, h => by
    obtain ⟨X, hX, hl⟩ := ends_ok l fun q hq => h q (List.mem_cons_of_mem _ hq)
    obtain ⟨tp, lp⟩ := h p (List.mem_cons_self ..)
    refine ⟨X + qab (bound p), by have := qab_nn (bound p); grind, fun x hx => ?_⟩
    have hb0 := qab_nn (bound p)
    have hb1 : bound p ≤ qab (bound p) := by unfold qab; split <;> grind
    obtain ⟨l1, l2⟩ := hl x (by grind)
    have e1 : qab x = x := by unfold qab; rw [if_neg (by grind)]
    have e2 : qab (-x) = x := by rw [qab_neg, e1]
    refine ⟨fun q hq => ?_, fun q hq => ?_⟩
    · rcases List.mem_cons.1 hq with rfl | hq
      · exact (beyond tp lp (x := x) (by rw [e1]; grind)).2.1 (by grind)
      · exact l1 q hq
    · rcases List.mem_cons.1 hq with rfl | hq
      · exact (beyond tp lp (x := -x) (by rw [e2]; grind)).2.2 (by grind)
      · exact l2 q hq
/-- beyond the bound signs turn no more -/
theorem vv_out {q : List Int} {L : List (List Rat)} (hS : Stm (cz q) L) (tq : Trim q) (lq : q.length ≠ 0) {x y : Rat} (hxy : x < y) (h : bound q ≤ x ∨ y ≤ -bound q) (hb : 0 < bound q) : vv L x = vv L y := by
  rcases Classical.em (vv L x = vv L y) with e | e
  · exact e
  · exfalso
    obtain ⟨r, r1, r2, r3⟩ := turned hS hxy e (d := 1) (by decide)
    have := (beyond tq lq (x := r) (by rcases h with h | h <;> (unfold qab; split <;> grind))).1
    rw [ev_cz] at r3; grind
theorem bound_pos {p : List Int} (h : lead p ≠ 0) : 1 ≤ bound p := by
  have hb := bound_eq h
  have hp := nat_pos (show 0 < (lead p).natAbs by omega)
  have hm0 : (0 : Rat) ≤ ((most (p.take (p.length - 1)) : Nat) : Rat) := Rat.natCast_nonneg
  rcases le_or 1 (bound p) with h' | h'
  · exact h'
  · have := Rat.mul_lt_mul_of_pos_right h' hp; grind
/-- how many roots there are -/
theorem rootsN_ok {q : List Int} {l : List (List Int)} (hS : Stm (cz q) ((q :: l).map cz)) (hl : ∀ p ∈ q :: l, Trim p ∧ p.length ≠ 0) : rootsN (q :: l) = (vv ((q :: l).map cz) (-bound q) : Int) - (vv ((q :: l).map cz) (bound q) : Int) := by
  obtain ⟨tq, lq⟩ := hl q (List.mem_cons_self ..)
  have hb := bound_pos (lead_ne tq lq)
  obtain ⟨X, hX, hx⟩ := ends_ok (q :: l) hl
  obtain ⟨h1, h2⟩ := hx (X + bound q) (by grind)
  have e1 : turns endP (q :: l) = vv ((q :: l).map cz) (X + bound q) := by
    rw [← turnsAt_vv]; unfold turnsAt turns
    rw [turns_congr (f := endP) (g := fun p => psign p (X + bound q)) (0, 0) fun p hp => (h1 p hp).symm]
  have e2 : turns endM (q :: l) = vv ((q :: l).map cz) (-(X + bound q)) := by
    rw [← turnsAt_vv]; unfold turnsAt turns
    rw [turns_congr (f := endM) (g := fun p => psign p (-(X + bound q))) (0, 0) fun p hp => (h2 p hp).symm]
  unfold rootsN
  rw [e1, e2, vv_out hS tq lq (x := -(X + bound q)) (y := -bound q) (by grind) (.inr Rat.le_refl) (by grind), ← vv_out hS tq lq (x := bound q) (y := X + bound q) (by grind) (.inl Rat.le_refl) (by grind)]
/-! ### two roots in one interval -/
theorem mid_ex {f : List Rat} {L : List (List Rat)} (hS : Stm f L) {x y : Rat} (hxy : x < y) (hv : vv L y + 2 ≤ vv L x) : ∃ m, x < m ∧ m < y ∧ vv L m < vv L x ∧ vv L y < vv L m ∧ ev f m ≠ 0 := by
  obtain ⟨R, hR, hx, hy⟩ := Rmax x y
  obtain ⟨e, ep, he⟩ := vv_short hS R hR
  have key : ∀ n : Nat, ∀ x, qab x ≤ R → x < y → vv L y + 2 ≤ vv L x → y - x ≤ (n : Rat) * e → ∃ m, x < m ∧ m < y ∧ vv L m < vv L x ∧ vv L y < vv L m := by
    intro n
    induction n with
    | zero => intro x _ hxy _ hn; rw [show ((0 : Nat) : Rat) = 0 from rfl] at hn; exfalso; clear he; grind
    | succ n ih =>
      intro x hx hxy hv hn
      have hn' : (((n + 1 : Nat) : Rat)) = (n : Rat) + 1 := by push_cast; rfl
      rw [hn'] at hn
      rcases le_or (y - x) e with h1 | h1
      · have := he x y hx hy hxy h1; omega
      · have hm : qab (x + e) ≤ R := in_R hx hy (by clear he ih; grind) (by clear he ih; grind)
        have h2 := he x (x + e) hx hm (by clear he ih; grind) (by clear he ih; grind)
        have h3 := vv_le hS (show x < x + e by clear he ih; grind)
        by_cases h4 : vv L x = vv L (x + e)
        · obtain ⟨m, m1, m2, m3, m4⟩ := ih (x + e) hm (by clear he ih; grind) (by omega) (by clear he ih; grind)
          exact ⟨m, by clear he ih; grind, m2, by omega, m4⟩
        · exact ⟨x + e, by clear he ih; grind, by clear he ih; grind, by omega, by omega⟩
  obtain ⟨n, hn⟩ := arch_mul (z := y - x) ep
  obtain ⟨m, m1, m2, m3, m4⟩ := key n x hx hxy hv hn
  rcases Classical.em (ev f m = 0) with h0 | h0
  · -- a little farther on
    obtain ⟨e2, e2p, hl⟩ := loc hR hS (w := f) (u := [1]) (fun t => by rw [ev_one]; grind)
    obtain ⟨d, dp, d1, d2⟩ := min2 (a := e2) (b := (y - m) / 2) e2p (div_po (by clear he key hl; grind) (by decide))
    have h2 : (y - m) / 2 * 2 = y - m := div_mul (by decide)
    have hmR : qab m ≤ R := in_R hx hy (Rat.le_of_lt m1) (Rat.le_of_lt m2)
    have hmR2 : qab (m + d) ≤ R := in_R hx hy (by clear he key hl; grind) (by clear he key hl; grind)
    rcases hl m (m + d) hmR hmR2 (by clear he key hl; grind) (by clear he key hl; grind) with ⟨p1, p2, _⟩ | ⟨_, p1, _, p3, _⟩
    · refine ⟨m + d, by clear he key hl; grind, by clear he key hl; grind, by omega, by omega, fun h' => ?_⟩
      have := p2.s
      rw [sgnQ_zero.2 h'] at this; exact p2.n this.symm
    · rw [sgnQ_zero.2 h0] at p3; exact absurd p3.symm p1
  · exact ⟨m, m1, m2, m3, m4, h0⟩
theorem two_far {q : List Int} {L : List (List Rat)} (hS : Stm (cz q) L) (tq : Trim q) (nq : q.length ≤ 9) (lq : 2 ≤ q.length) {lo hi : Rat} (hl : lo < hi) (hv : vv L hi + 2 ≤ vv L lo) : 1 < (hi - lo) * ((2 ^ (gapK q q + 1) : Nat) : Rat) := by
  rcases le_or ((hi - lo) * ((2 ^ (gapK q q + 1) : Nat) : Rat)) 1 with hw | hw
  · exfalso
    have hpow : (0 : Rat) ≤ ((2 ^ (gapK q q + 1) : Nat) : Rat) := Rat.natCast_nonneg
    obtain ⟨m, m1, m2, m3, m4, m0⟩ := mid_ex hS hl hv
    obtain ⟨R, hR, r1, r2⟩ := Rmax lo hi
    have hd := qab_pos m0
    obtain ⟨d, dp, _, db⟩ := small_ex (b := dqB R (cz q)) (d := qab (ev (cz q) m) / 2) (dqB_nn hR _) (div_po hd (by decide))
    have hd2 : qab (ev (cz q) m) / 2 * 2 = qab (ev (cz q) m) := div_mul (by decide)
    have hmR : qab m ≤ R := in_R r1 r2 (Rat.le_of_lt m1) (Rat.le_of_lt m2)
    -- near m q is not small
    have hnear : ∀ r, qab r ≤ R → qab (ev (cz q) r) < qab (ev (cz q) m) / 2 → d < qab (r - m) := fun r hr hs => by
      rcases le_or (qab (r - m)) d with h | h
      · exfalso
        have h1 := lip_near (p := cz q) hmR hr hR h db
        have h2 := qab_add (ev (cz q) m - ev (cz q) r) (ev (cz q) r)
        rw [show ev (cz q) m - ev (cz q) r + ev (cz q) r = ev (cz q) m by grind, qab_sub] at h2
        grind
      · exact h
    refine gap_T (R := R + 1) (d := d + d) tq tq nq nq lq lq (by grind) (by grind) fun e ep => ?_
    obtain ⟨e', ep', e1, e2⟩ := min2 (a := e) (b := qab (ev (cz q) m) / 2) ep (div_po hd (by decide))
    obtain ⟨x, x1, x2, x3⟩ := turned hS m1 (by omega) ep'
    obtain ⟨y, y1, y2, y3⟩ := turned hS m2 (by omega) ep'
    have hxR : qab x ≤ R := in_R r1 r2 x1 (by grind)
    have hyR : qab y ≤ R := in_R r1 r2 (by grind) y2
    have nx := hnear x hxR (by grind)
    have ny := hnear y hyR (by grind)
    have ex : qab (x - m) = m - x := by unfold qab; split <;> grind
    have ey : qab (y - m) = y - m := by unfold qab; split <;> grind
    rw [ex] at nx
    rw [ey] at ny
    have exy : qab (x - y) = y - x := by unfold qab; split <;> grind
    refine ⟨x, y, by grind, by grind, by rw [exy]; grind, ?_, by rw [← ev_cz]; grind, by rw [← ev_cz]; grind⟩
    rw [exy]
    exact Rat.le_trans (Rat.mul_le_mul_of_nonneg_right (show y - x ≤ hi - lo by grind) hpow) hw
  · exact hw
end Orq
