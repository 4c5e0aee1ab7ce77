/- ANews PairL DetL HullL AvDrawS AvFn AvDrawAS ADet AvMap MeshL ACirc AvArr AvLeaf AvLeafC -/
import Derived.Test.YtaffmkgbfgjgeaaGreatPart07
import Derived.MapKept
set_option linter.all false

namespace Orr
open Go Go.Proofs
theorem snoc_map {α β : Type} (f : α → β) (l : List α) (x : α) : l.map f ++ [f x] = (l ++ [x]).map f := by simp
abbrev GoodP (l : List Pt) : Prop := ∀ a ∈ l, Nml a.c ∧ Cb a.c
theorem newL_mem : ∀ (qs acc : List Pt) {p : Pt}, p ∈ (newL acc qs).1 → p ∈ qs ∨ p ∈ acc
 | [], acc, p, h => .inr h
 | q :: qs, acc, p, h => by
  simp only [newL] at h
  split at h
  ·rcases newL_mem qs _ h with h | h
   ·exact .inl (List.mem_cons_of_mem _ h)
   ·rcases put_mem h with rfl | h
    ·exact .inl (List.mem_cons_self ..)
    ·exact .inr h
  ·cases h
theorem qs_0 : Qs 1 (ratOf 0 0) := by
 unfold ratOf
 exact Qs.divInt (by decide) (by decide) (by decide)
theorem good_still {x y : Int} (hx : -9223372036854775808 ≤ x ∧ x ≤ 9223372036854775807) (hy : -9223372036854775808 ≤ y ∧ y ≤ 9223372036854775807) : Nml (still x y) ∧ Cb (still x y) :=
 ⟨Crv.nml _, ((cs_still hx hy).norm (by decide)).mono (by omega) (by omega)⟩
def idAt : List LV → Int
 | [_, _, _, _, .int _ id] => id
 | _ => 0
def npt (zs : List (List LV)) (k : Nat) : Pt := { c := still (k : Int) (if k < zs.length then ((k * k : Nat) : Int) else -((k * k : Nat) : Int)), id := if k < zs.length then idAt (zs.getD k []) % 40 else ((100 + k : Nat) : Int) }
def npts (zs : List (List LV)) (n : Nat) : List Pt := (List.range n).map (npt zs)
theorem npts_len (zs : List (List LV)) (n : Nat) : (npts zs n).length = n := by simp [npts]
theorem npts_snoc (zs : List (List LV)) (i : Nat) : (npts zs (i + 1)).map ofPt = (npts zs i).map ofPt ++ [ofPt (npt zs i)] := by
 unfold npts; rw [List.range_succ, List.map_append, List.map_append]; rfl
theorem npt_in {zs : List (List LV)} {i : Nat} (h : i < zs.length) : npt zs i = { c := still (i : Int) ((i * i : Nat) : Int), id := idAt zs[i] % 40 } := by
 unfold npt; rw [if_pos h, if_pos h, List.getD_eq_getElem?_getD, List.getElem?_eq_getElem h]; rfl
theorem npt_out {zs : List (List LV)} {i : Nat} (h : ¬ i < zs.length) : npt zs i = { c := still (i : Int) (-((i * i : Nat) : Int)), id := ((100 + i : Nat) : Int) } := by
 unfold npt; rw [if_neg h, if_neg h]
theorem npts_good {zs : List (List LV)} {n : Nat} (hn : n ≤ 8) : GoodP (npts zs n) := by
 intro a ha
 obtain ⟨k, hk, rfl⟩ := List.mem_map.1 ha
 have hk := List.mem_range.1 hk
 have : k * k ≤ 8 * 8 := Nat.mul_le_mul (by omega) (by omega)
 exact good_still (by omega) (by split <;> omega)
theorem npts_get {zs : List (List LV)} {n k : Nat} (h : k < n) : (npts zs n)[k]? = some (npt zs k) := by
 unfold npts; rw [List.getElem?_map, List.getElem?_range h]; rfl
theorem npts_pw (zs : List (List LV)) (n : Nat) : (npts zs n).Pairwise (fun a b => a.id ≠ b.id) ↔ ∀ k j, k < j → j < n → (npt zs k).id ≠ (npt zs j).id := by
 rw [List.pairwise_iff_getElem]
 constructor
 ·intro h k j hkj hj
  have := h k j (by rw [npts_len]; omega) (by rw [npts_len]; omega) hkj
  simpa [npts] using this
 ·intro h k j hk hj hkj
  rw [npts_len] at hj
  have := h k j hkj hj
  simpa [npts] using this
theorem npts_id {zs : List (List LV)} {n : Nat} (hn : n ≤ 8) : ∀ p ∈ npts zs n, p.id < 200 := by
 intro a ha
 obtain ⟨k, hk, rfl⟩ := List.mem_map.1 ha
 have hk := List.mem_range.1 hk
 unfold npt
 split
 ·have := Int.emod_lt_of_pos (idAt (zs.getD k [])) (show (0 : Int) < 40 by decide); show _ % 40 < 200; omega
 ·show ((100 + k : Nat) : Int) < 200; omega
theorem put_new {l : List Pt} {c : Crv} {x : Int} (hs : SortedP l) (hl : l.length < 6) (hx : ∀ p ∈ l, p.id < x) : putE l (Pt.mk c x) = 0 := by
 rw [putE_few hl]
 have : has l x = false := by
  cases h : has l x
  ·rfl
  ·obtain ⟨p, hp, e⟩ := (has_iff hs).1 h
   have := hx p hp; omega
 rw [this]; rfl
theorem put_full {l : List Pt} {c : Crv} {x : Int} (hs : SortedP l) (hl : l.length = 6) (hx : ∀ p ∈ l, p.id < x) : putE l (Pt.mk c x) = 9 := by
 unfold putE
 have : has l x = false := by
  cases h : has l x
  ·rfl
  ·obtain ⟨p, hp, e⟩ := (has_iff hs).1 h
   have := hx p hp; omega
 rw [this, if_neg (by decide), if_pos (by omega)]
theorem has_new {l : List Pt} {x : Int} (hs : SortedP l) (hx : ∀ p ∈ l, p.id < x) : has l x = false := by
 cases h : has l x
 ·rfl
 ·obtain ⟨p, hp, e⟩ := (has_iff hs).1 h
  have := hx p hp; omega
theorem cs_nil : Cs 4294967294 1073741824 (Crv.mk [] [] 0) := ⟨fun _ h => absurd h (by simp), fun _ h => absurd h (by simp), Nat.zero_le _, Nat.zero_le _, Nat.zero_le _⟩
def Named (zs : List (List LV)) : Prop := ∀ z ∈ zs, ∃ x0 x1 x2 x3 id, z = [x0, x1, x2, x3, .int .i64 id] ∧ -9223372036854775808 ≤ id ∧ id ≤ 9223372036854775807
theorem tmod_neg {v n : Int} (hn : 0 < n) (h : v.tmod n < 0) : v.tmod n + n = v % n := by
 have h1 := Int.tmod_eq_emod (a := v) (b := n)
 have h2 := Int.emod_nonneg v (b := n) (by omega)
 have h3 := Int.emod_lt_of_pos v hn
 rw [h1] at h ⊢
 split at h <;> split <;> omega
theorem tmod_pos {v n : Int} (hn : 0 < n) (h : ¬ v.tmod n < 0) : v.tmod n = v % n := by
 have h1 := Int.tmod_eq_emod (a := v) (b := n)
 have h2 := Int.emod_nonneg v (b := n) (by omega)
 have h3 := Int.emod_lt_of_pos v hn
 rw [h1] at h ⊢
 split at h <;> split <;> omega
theorem d_keep_Within {v n : Int} (hv : -9223372036854775808 ≤ v ∧ v ≤ 9223372036854775807) (hn : 0 < n ∧ n ≤ 1000000) : Does Tryz.prog 18 [.one (.int .i64 v), .one (.int .i64 n)] (.one (.int .i64 ((v % n)))) := by
 refine does_ (n := 17) Tryz.func18 rfl Tryz.ntmps18 rfl ?_
 have hlt := Int.tmod_lt_of_pos v hn.1
 have hgt : -n < v.tmod n := by have := Int.tmod_eq_emod (a := v) (b := n); have := Int.emod_nonneg v (b := n) (by omega); have := Int.emod_lt_of_pos v hn.1; split at * <;> omega
 by_cases h0 : v.tmod n < 0
 ·skip
  refine ac_seq (ac_reg ?_)
  refine w_ (p_assign rfl rfl) ?_
  refine aw_nil ?_
  refine ac_seq (ac_seq (ac_reg ?_))
  refine w_ (p_move rfl rfl) ?_
  refine w_ (p_cmp rfl rfl rfl rfl) ?_
  refine aw_nil ?_
  refine ac_f rfl (decide_eq_false (by omega)) ?_
  refine ac_skip ?_
  refine ac_seq (ac_reg ?_)
  refine w_ (p_move rfl rfl) ?_
  refine w_ (p_move rfl rfl) ?_
  refine w_ (p_rem (r := (v.tmod n)) rfl rfl (by omega) (rfl) rfl) ?_
  refine w_ (p_assign rfl rfl) ?_
  refine aw_nil ?_
  refine ac_seq (ac_seq (ac_reg ?_))
  refine w_ (p_move rfl rfl) ?_
  refine w_ (p_cmp rfl rfl rfl rfl) ?_
  refine aw_nil ?_
  refine ac_t rfl (decide_eq_true h0) ?_
  refine ac_reg ?_
  refine w_ (p_move rfl rfl) ?_
  refine w_ (p_move rfl rfl) ?_
  refine w_ (p_add (r := (v % n)) rfl rfl (by rw [tmod_neg hn.1 h0]; exact wrap64_of (by have := Int.emod_nonneg v (b := n) (by omega); omega) (by have := Int.emod_lt_of_pos v hn.1; omega)) rfl) ?_
  refine w_ (p_assign rfl rfl) ?_
  refine aw_nil ?_
  refine ac_seq (ac_reg ?_)
  refine w_ (p_move rfl rfl) ?_
  refine w_ (p_assign rfl rfl) ?_
  refine aw_nil ?_
  refine ac_ret ?_
  exact retB_1 Tryz.results18 (rv_tmp rfl rfl) (rfl)
 ·skip
  refine ac_seq (ac_reg ?_)
  refine w_ (p_assign rfl rfl) ?_
  refine aw_nil ?_
  refine ac_seq (ac_seq (ac_reg ?_))
  refine w_ (p_move rfl rfl) ?_
  refine w_ (p_cmp rfl rfl rfl rfl) ?_
  refine aw_nil ?_
  refine ac_f rfl (decide_eq_false (by omega)) ?_
  refine ac_skip ?_
  refine ac_seq (ac_reg ?_)
  refine w_ (p_move rfl rfl) ?_
  refine w_ (p_move rfl rfl) ?_
  refine w_ (p_rem (r := (v.tmod n)) rfl rfl (by omega) (rfl) rfl) ?_
  refine w_ (p_assign rfl rfl) ?_
  refine aw_nil ?_
  refine ac_seq (ac_seq (ac_reg ?_))
  refine w_ (p_move rfl rfl) ?_
  refine w_ (p_cmp rfl rfl rfl rfl) ?_
  refine aw_nil ?_
  refine ac_f rfl (decide_eq_false h0) ?_
  refine ac_skip ?_
  refine ac_seq (ac_reg ?_)
  refine w_ (p_move rfl rfl) ?_
  refine w_ (p_assign rfl rfl) ?_
  refine aw_nil ?_
  refine ac_ret ?_
  exact retB_1 Tryz.results18 (rv_tmp rfl rfl) (by rw [tmod_pos hn.1 h0])
end Orr

namespace Orr
theorem take_snoc {α : Type} {l : List α} {i : Nat} {x : α} (h : l[i]? = some x) : l.take (i + 1) = l.take i ++ [x] := by rw [List.take_succ, h]; rfl
def pairsK : Nat → List Pt → List (Pt × Pt)
  | 0, _ => []
  | _ + 1, [] => []
  | k + 1, x :: l => l.map (fun y => (x, y)) ++ pairsK k l
def pairsOf (l : List Pt) : List (Pt × Pt) := pairsK l.length l
theorem pairsK_next : ∀ (l : List Pt) (i : Nat) (x : Pt), l[i]? = some x → pairsK (i + 1) l = pairsK i l ++ (l.drop (i + 1)).map (fun y => (x, y))
  | [], i, x, h => by simp at h
  | y :: l, 0, x, h => by
    simp at h; subst h
    simp [pairsK]
  | y :: l, i + 1, x, h => by
    have h : l[i]? = some x := by simpa using h
    have ih := pairsK_next l i x h
    show l.map (fun z => (y, z)) ++ pairsK (i + 1) l = (l.map (fun z => (y, z)) ++ pairsK i l) ++ _
    rw [ih, List.append_assoc]
    rfl
theorem pairsK_mem : ∀ (k : Nat) (l : List Pt), ∀ m ∈ pairsK k l, m.1 ∈ l ∧ m.2 ∈ l
  | 0, l, m, h => by simp [pairsK] at h
  | k + 1, [], m, h => by simp [pairsK] at h
  | k + 1, x :: l, m, h => by
    rcases List.mem_append.1 h with h | h
    · obtain ⟨y, hy, rfl⟩ := List.mem_map.1 h
      exact ⟨List.mem_cons_self .., List.mem_cons_of_mem _ hy⟩
    · obtain ⟨h1, h2⟩ := pairsK_mem k l m h
      exact ⟨List.mem_cons_of_mem _ h1, List.mem_cons_of_mem _ h2⟩
theorem pairsK_len : ∀ (k : Nat) (l : List Pt), (pairsK k l).length ≤ k * l.length
  | 0, l => by simp [pairsK]
  | k + 1, [] => by simp [pairsK]
  | k + 1, x :: l => by
    have := pairsK_len k l
    simp only [pairsK, List.length_append, List.length_map, List.length_cons]
    have e : (k + 1) * (l.length + 1) = k * l.length + k + l.length + 1 := by rw [Nat.add_mul, Nat.mul_add]; omega
    omega
def other (s m : Pt × Pt) : Bool := decide (m.1.id ≠ s.1.id) || decide (m.2.id ≠ s.2.id)
end Orr

namespace Orr
def mats (M : List (List (List Int))) : LV := .row (M.map fun r => [pls r])
theorem rlen_mats (M : List (List (List Int))) : rlen (mats M) = some M.length := by simp [rlen, mats]
def minor0 (i : Nat) (M : List (List (List Int))) : List (List (List Int)) := (M.eraseIdx i).map (·.drop 1)
theorem erase_ne {α : Type} {l : List α} {i : Nat} {x : α} (h : l.length ≠ i) : (l ++ [x]).eraseIdx i = l.eraseIdx i ++ [x] := by
  rcases Nat.lt_or_ge i l.length with h1 | h1
  · exact List.eraseIdx_append_of_lt_length h1 _
  · rw [List.eraseIdx_append_of_length_le h1, List.eraseIdx_of_length_le h1, List.eraseIdx_of_length_le]
    simp; omega
theorem erase_eq {α : Type} {l : List α} {i : Nat} {x : α} (h : l.length = i) : (l ++ [x]).eraseIdx i = l.eraseIdx i := by
  rw [List.eraseIdx_append_of_length_le (by omega), List.eraseIdx_of_length_le (by omega : l.length ≤ i), ← h]
  simp
theorem minor_ne {M : List (List (List Int))} {i k : Nat} {r : List (List Int)} (h : M[k]? = some r) (hk : k ≠ i) : minor0 i (M.take (k + 1)) = minor0 i (M.take k) ++ [r.drop 1] := by
  have hl : (M.take k).length = k := by rw [List.length_take]; have := (List.getElem?_eq_some_iff.1 h).1; omega
  unfold minor0
  rw [take_snoc h, erase_ne (by omega), List.map_append]; rfl
theorem minor_eq {M : List (List (List Int))} {i : Nat} {r : List (List Int)} (h : M[i]? = some r) : minor0 i (M.take (i + 1)) = minor0 i (M.take i) := by
  have hl : (M.take i).length = i := by rw [List.length_take]; have := (List.getElem?_eq_some_iff.1 h).1; omega
  unfold minor0
  rw [take_snoc h, erase_eq hl]
def detK (f : List (List (List Int)) → List Int) (M : List (List (List Int))) : Nat → List Int
  | 0 => []
  | i + 1 => if ((M.getD i []).getD 0 []).length = 0 then detK f M i else if i % 2 = 0 then padd (detK f M i) (pmul ((M.getD i []).getD 0 []) (f (minor0 i M))) else psub (detK f M i) (pmul ((M.getD i []).getD 0 []) (f (minor0 i M)))
def det : Nat → List (List (List Int)) → List Int
  | 0, _ => [1]
  | n + 1, M => detK (det n) M (n + 1)
def RowB : List (Nat × Nat) → List (List Int) → Prop
  | [], [] => True
  | (l, b) :: cs, p :: r => (Trim p ∧ p.length ≤ l ∧ Bd b p) ∧ RowB cs r
  | _, _ => False
theorem RowB.len : ∀ {cs : List (Nat × Nat)} {r : List (List Int)}, RowB cs r → r.length = cs.length
  | [], [], _ => rfl
  | _ :: _, _ :: _, h => by simp [RowB.len h.2]
  | [], _ :: _, h => h.elim
  | _ :: _, [], h => h.elim
theorem RowB.get : ∀ {cs : List (Nat × Nat)} {r : List (List Int)}, RowB cs r → ∀ p ∈ r, Trim p ∧ ∃ c ∈ cs, p.length ≤ c.1 ∧ Bd c.2 p
  | [], [], _, p, hp => by cases hp
  | (l, b) :: cs, q :: r, h, p, hp => by
    rcases List.mem_cons.1 hp with rfl | hp
    · exact ⟨h.1.1, (l, b), List.mem_cons_self .., h.1.2⟩
    · obtain ⟨h1, c, hc, h2⟩ := RowB.get h.2 p hp
      exact ⟨h1, c, List.mem_cons_of_mem _ hc, h2⟩
  | [], _ :: _, h, _, _ => h.elim
  | _ :: _, [], h, _, _ => h.elim
def lsum : List (Nat × Nat) → Nat
  | [] => 0
  | c :: cs => c.1 + lsum cs
def bsum : List (Nat × Nat) → Nat
  | [] => 0
  | c :: cs => c.2 + bsum cs
def ColsOk (cs : List (Nat × Nat)) : Prop := ∀ c ∈ cs, 1 ≤ c.1 ∧ c.1 ≤ 31
theorem lsum_ge : ∀ {cs : List (Nat × Nat)}, ColsOk cs → cs.length ≤ lsum cs
  | [], _ => Nat.le_refl _
  | c :: cs, h => by
    have h1 := h c (List.mem_cons_self ..)
    have h2 := lsum_ge (cs := cs) fun x hx => h x (List.mem_cons_of_mem _ hx)
    simp only [lsum, List.length_cons]; omega
theorem bsum_le : ∀ {cs : List (Nat × Nat)} {c : Nat × Nat}, c ∈ cs → c.2 ≤ bsum cs
  | x :: cs, c, h => by
    rcases List.mem_cons.1 h with rfl | h
    · simp only [bsum]; omega
    · have := bsum_le h; simp only [bsum]; omega
theorem minor_rows {c : Nat × Nat} {cs : List (Nat × Nat)} {M : List (List (List Int))} (h : ∀ r ∈ M, RowB (c :: cs) r) (i : Nat) : ∀ r ∈ minor0 i M, RowB cs r := by
  intro r hr
  obtain ⟨s, hs, rfl⟩ := List.mem_map.1 hr
  have hs := h s (List.mem_of_mem_eraseIdx hs)
  match s, hs with
  | p :: s, hs => exact hs.2
theorem minor_len {i : Nat} {M : List (List (List Int))} (h : i < M.length) : (minor0 i M).length = M.length - 1 := by
  unfold minor0; rw [List.length_map, List.length_eraseIdx, if_pos h]
theorem head_of {c : Nat × Nat} {cs : List (Nat × Nat)} {M : List (List (List Int))} (h : ∀ r ∈ M, RowB (c :: cs) r) {i : Nat} {r : List (List Int)} (hr : M[i]? = some r) :
    ∃ p, r[0]? = some p ∧ (M.getD i []).getD 0 [] = p ∧ Trim p ∧ p.length ≤ c.1 ∧ Bd c.2 p := by
  have hb := h r (List.mem_of_getElem? hr)
  match r, hb, hr with
  | p :: r, hb, hr =>
    refine ⟨p, rfl, ?_, hb.1⟩
    have e : M.getD i [] = p :: r := by rw [List.getD_eq_getElem?_getD, hr]; rfl
    rw [e]; rfl
def DetB (cs : List (Nat × Nat)) (p : List Int) : Prop := Trim p ∧ p.length + cs.length ≤ lsum cs + 1 ∧ Bd (bsum cs + 9 * cs.length + 1) p
theorem detK_b {c : Nat × Nat} {cs : List (Nat × Nat)} {M : List (List (List Int))} {f : List (List (List Int)) → List Int} (hc : ColsOk (c :: cs)) (h : ∀ r ∈ M, RowB (c :: cs) r) (hf : ∀ i, i < M.length → DetB cs (f (minor0 i M))) :
    ∀ i, i ≤ M.length → i ≤ 4 → Trim (detK f M i) ∧ (detK f M i).length + (cs.length + 1) ≤ c.1 + lsum cs + 1 ∧ Bd (c.2 + (bsum cs + 9 * cs.length + 1) + 5 + i) (detK f M i)
  | 0, _, _ => by
    have := lsum_ge hc
    simp only [lsum, List.length_cons] at this
    exact ⟨rfl, by simp [detK]; omega, bd_nil⟩
  | i + 1, hi, h4 => by
    obtain ⟨i1, i2, i3⟩ := detK_b hc h hf i (by omega) (by omega)
    obtain ⟨t1, t2, t3⟩ := hf i (by omega)
    obtain ⟨r, hr⟩ : ∃ r, M[i]? = some r := ⟨_, List.getElem?_eq_getElem (by omega)⟩
    obtain ⟨p, _, hp, p1, p2, p3⟩ := head_of h hr
    have hc1 := hc c (List.mem_cons_self ..)
    simp only [detK]
    rw [hp]
    have m1 := len_pmul p (f (minor0 i M))
    have m2 := bd_pmul (u := 5) p3 t3 (by omega)
    split
    · exact ⟨i1, i2, bd_mono i3 (by omega)⟩
    · rename_i h0
      split
      · have := len_padd (detK f M i) (pmul p (f (minor0 i M)))
        exact ⟨each_trim _ _, by omega, bd_mono (bd_padd i3 m2) (by omega)⟩
      · have := len_psub (detK f M i) (pmul p (f (minor0 i M)))
        exact ⟨each_trim _ _, by omega, bd_mono (bd_psub i3 m2) (by omega)⟩
theorem det_b : ∀ (n : Nat) (cs : List (Nat × Nat)) (M : List (List (List Int))), cs.length = n → M.length = n → n ≤ 4 → ColsOk cs → (∀ r ∈ M, RowB cs r) → DetB cs (det n M)
  | 0, cs, M, hn, hM, h4, hc, h => by
    have : cs = [] := List.eq_nil_of_length_eq_zero hn
    subst this
    refine ⟨rfl, by simp [det, lsum], ?_⟩
    intro z hz
    simp only [det, List.mem_singleton] at hz
    subst hz
    decide
  | n + 1, [], M, hn, _, _, _, _ => by simp at hn
  | n + 1, c :: cs, M, hn, hM, h4, hc, h => by
    have hn : cs.length = n := by simpa using hn
    have hf : ∀ i, i < M.length → DetB cs (det n (minor0 i M)) := fun i hi =>
      det_b n cs (minor0 i M) hn (by rw [minor_len hi]; omega) (by omega) (fun x hx => hc x (List.mem_cons_of_mem _ hx)) (minor_rows h i)
    obtain ⟨h1, h2, h3⟩ := detK_b hc h hf (n + 1) (by omega) h4
    refine ⟨h1, ?_, ?_⟩
    · simp only [det, lsum, List.length_cons]; omega
    · simp only [det, bsum, List.length_cons]
      exact bd_mono h3 (by omega)
end Orr

namespace Orr
def mkOrder (q : Rat) (a b : Pt) : Ct := ⟨1, a.id, b.id, 0, 0, either (pright a.c b.c) (pabove a.c b.c), germAt (either (pright a.c b.c) (pabove a.c b.c)) q⟩
def orders (q : Rat) : List Pt → List Ct
  | a :: b :: l => mkOrder q a b :: orders q (b :: l)
  | _ => []
def orow3 (a : Crv) : List (List Int) := [a.x, a.y, [a.d]]
def porient (a b c : Crv) : List Int := det 3 [orow3 a, orow3 b, orow3 c]
abbrev cols3 : List (Nat × Nat) := [(16, 1048576), (16, 1048576), (1, 1048576)]
theorem trim_one {z : Int} (h : z ≠ 0) : Trim [z] := by simp [Trim, trim, h]
theorem orow3_b {a : Crv} (h : Nml a) (c : Cb a) : RowB cols3 (orow3 a) := by
  refine ⟨⟨h.1, c.lx, c.x⟩, ⟨h.2.1, c.ly, c.y⟩, ⟨trim_one (by have := h.2.2.1; omega), Nat.le_refl _, ?_⟩, trivial⟩
  intro z hz
  rw [List.mem_singleton.1 hz]; exact c.d
theorem cols3_ok : ColsOk cols3 := by
  intro c hc
  simp only [List.mem_cons, List.not_mem_nil, or_false] at hc
  rcases hc with rfl | rfl | rfl <;> decide
theorem pb_orient {a b c : Crv} (ha : Nml a) (hb : Nml b) (hc : Nml c) (ca : Cb a) (cb : Cb b) (cc : Cb c) : Pb (porient a b c) := by
  have h := det_b 3 cols3 [orow3 a, orow3 b, orow3 c] rfl rfl (by decide) cols3_ok (by
    intro r hr
    simp only [List.mem_cons, List.not_mem_nil, or_false] at hr
    rcases hr with rfl | rfl | rfl
    · exact orow3_b ha ca
    · exact orow3_b hb cb
    · exact orow3_b hc cc)
  obtain ⟨h1, h2, h3⟩ := h
  have h2 : (porient a b c).length + 3 ≤ 33 + 1 := h2
  exact ⟨h1, by omega, bd_mono h3 (by decide)⟩
def mkOrient (q : Rat) (a b c : Pt) : Ct := ⟨3, a.id, b.id, c.id, 0, porient a.c b.c c.c, germAt (porient a.c b.c c.c) q⟩
def away (a b c : Pt) : Bool := decide (c.id ≠ a.id) && decide (c.id ≠ b.id)
end Orr

namespace Orr
open Go
variable {P : Program} {ops : Array Oper} {n : Nat} {rest : List Oper} {N : Sg → List OB → Prop} {L : Sg} {B : List OB} {d : Nat} {ty : TypeId} {pos : String} {after : Array Edge}
end Orr

namespace Orr
open Go
section
variable {w : World} {O : Nat → Prop}
end
variable {P : Program} {ops : Array Oper} {n d : Nat} {rest : List Oper} {N : Sg → List OB → Prop} {L : Sg} {B : List OB} {ty : TypeId} {pos : String} {after : Array Edge}
end Orr
namespace Orr
open Go
variable {P : Program} {ops : Array Oper} {n d : Nat} {rest : List Oper} {N : Sg → List OB → Prop} {L : Sg} {B : List OB} {c : Code} {Q : Exit → Sg → List OB → Prop}
theorem SA.swap {K Ob : Nat → Prop} {w0 w : World} {a : Act} {A C : List OB} (h : SA K Ob w0 w a n L (A ++ C)) : SA K Ob w0 w a n L (C ++ A) := by
  obtain ⟨L', Bs, h1, h2, h3⟩ := h
  obtain ⟨Bi, Bq, rfl, h4, h5⟩ := bs_split h3
  have hp : (Bi ++ Bq).Perm (Bq ++ Bi) := List.perm_append_comm
  have ho : owns Ob (Bi ++ Bq) = owns Ob (Bq ++ Bi) := by
    funext b
    simp only [owns]
    rw [show (b ∈ (Bi ++ Bq).map (·.1)) = (b ∈ (Bq ++ Bi).map (·.1)) from propext ((hp.map _).mem_iff)]
  rw [ho] at h2 h4 h5
  exact ⟨L', Bq ++ Bi, h1.perm hp.symm, h2, bs_join h5 h4⟩
end Orr
namespace Orr
open Go
variable {P : Program} {ops : Array Oper} {n d : Nat} {rest : List Oper} {N : Sg → List OB → Prop} {L : Sg} {B : List OB} {c : Code} {Q : Exit → Sg → List OB → Prop}
theorem SA.slotNil {K Ob : Nat → Prop} {w0 w : World} {a : Act} (h : SA K Ob w0 w a n L B) {t : Nat} (ht : lk L t = some (.one .nils)) : SA K Ob w0 w a n ((t, .one (.row [])) :: L) B := by
  obtain ⟨L', Bs, h1, h2, h3⟩ := h
  refine ⟨L', Bs, h1, fun s x hx => ?_, h3⟩
  simp only [lk] at hx
  cases e : Nat.beq s t <;> rw [e] at hx
  · exact h2 s x hx
  · injection hx with hx
    subst hx
    rw [Nat.eq_of_beq_eq_true e]
    obtain ⟨v, hv, hr⟩ := h2 t _ ht
    exact ⟨v, hv, (nils_row (w := w) (O := owns Ob Bs) hr).x⟩
theorem ac_slotNil (t : Nat) (ht : lk L t = some (.one .nils)) (k : AC P n c Q ((t, .one (.row [])) :: L) B) : AC P n c Q L B := fun _ _ _ _ _ hs => k _ _ _ _ _ (hs.slotNil ht)
end Orr

namespace Orr
open Go
variable {P : Program} {ops : Array Oper} {n : Nat} {L : Sg} {B : List OB} {ty : TypeId} {pos : String} {after : Array Edge} {Q : Exit → Sg → List OB → Prop}
end Orr

namespace Orr
open Go Go.Proofs
abbrev SmallP (p : List Int) : Prop := Trim p ∧ p.length < 274877906944 ∧ Bd 4294967295 p
theorem drop_snoc {α : Type} {l : List α} {j : Nat} {x : α} (h : l[j]? = some x) (h0 : 0 < j) : (l.take (j + 1)).drop 1 = (l.take j).drop 1 ++ [x] := by
 rw [take_snoc h, List.drop_append_of_le_length (by rw [List.length_take]; have := (List.getElem?_eq_some_iff.1 h).1; omega)]
theorem drop_zero' {α : Type} (l : List α) : (l.take (0 + 1)).drop 1 = (l.take 0).drop 1 := by cases l <;> rfl
theorem d_det_Row {ps : List (List Int)} (hl : ps.length ≤ 1000) (hp : ∀ p ∈ ps, SmallP p) : Does Tryz.prog 233 [.one (pls ps)] (.one (pls ps)) := by
 refine does_ (n := 19) Tryz.func233 rfl Tryz.ntmps233 rfl ?_
 refine ac_seq (ac_reg ?_)
 refine w_ (p_assign rfl rfl) ?_
 refine aw_nil ?_
 refine ac_seq (ac_reg ?_)
 refine w_ (p_assign rfl rfl) ?_
 refine aw_nil ?_
 refine ac_seq (ac_seq (ac_reg ?_))
 refine w_ (p_move rfl rfl) ?_
 refine w_ (p_len (m := ps.length) Tryz.runUnderlying287 rfl (rlen_pls _) rfl) ?_
 refine w_ (p_move rfl rfl) ?_
 refine aw_nil ?_
 refine ac_block ?_
 refine ac_ownNil [3] 52 1 rfl (allAre1 rfl) rfl ?_
 refine ac_pick [3, 6, 7, 8] rfl ?_
 refine ac_loop (fun m L B => ∃ i r, i ≤ ps.length ∧ m = ps.length - i ∧ L = [(3, .one (.orow r 1 0 i)), (6, .one (pls ps)), (7, .one (.int .i64 (((ps.length : Nat) : Int)))), (8, .one (.int .i64 (((i : Nat) : Int))))] ∧ B = [.row r 52 1 ((ps.take i).map (fun p => [pl p]))]) (m := _) ⟨0, none, Nat.zero_le _, rfl, rfl, rfl⟩ ?_
 rintro m L B ⟨i, r, hp0, hm, rfl, rfl⟩
 by_cases hlt : i < ps.length
 ·obtain ⟨p, hpi⟩ : ∃ p, ps[i]? = some p := ⟨_, List.getElem?_eq_getElem hlt⟩
  have hpp := hp p (List.mem_of_getElem? hpi)
  refine ac_seq (ac_reg ?_)
  refine w_ (p_cmp rfl rfl rfl rfl) ?_
  refine aw_nil ?_
  refine ac_seq ?_
  refine ac_t rfl (decide_eq_true (by omega)) ?_
  refine ac_skip ?_
  refine ac_seq (ac_block (ac_seq (ac_reg ?_)))
  refine w_ (p_index (i) Tryz.runUnderlying287 Tryz.sizeOf52 rfl rfl (rfl) (map_get hpi) rfl rfl) ?_
  refine w_ (p_loadSh Tryz.isAgg52 Tryz.sizeOf52 rfl rfl rfl rfl) ?_
  refine w_ (p_assign rfl rfl) ?_
  refine aw_nil ?_
  refine ac_reg ?_
  refine w_ (p_move rfl rfl) ?_
  refine w_ (p_move rfl rfl) ?_
  refine w_ (p_call Tryz.func189 rfl rfl rfl rfl (d_poly_NormT hpp.1 hpp.2.1 hpp.2.2) rfl) ?_
  refine w_ (p_lit Tryz.runUnderlying287 Tryz.sizeOf52 Tryz.zeroValue52 rfl rfl rfl rfl rfl rfl rfl rfl rfl rfl) ?_
  refine a_append (ls2 := (ps.take (i + 1)).map (fun p => [pl p])) (m2 := i + 1) 0 Tryz.runUnderlying287 Tryz.runUnderlying287 Tryz.typeInfo52 rfl rfl Tryz.sizeOf52 Tryz.zeroValue52 rfl rfl rfl rfl rfl rfl rfl (by rw [List.length_map, List.length_take]; omega) (one_w rfl) (one_f rfl) (by show _ + 1 < _; omega) (by rw [List.take_of_length_le (by rw [List.length_map, List.length_take]; omega), take_snoc hpi, List.map_append]; rfl) (rfl) fun r1 => ?_
  refine w_ (p_assign rfl rfl) ?_
  refine aw_nil ?_
  refine ac_reg ?_
  refine w_ (p_add (r := ((i + 1 : Nat) : Int)) rfl rfl (i64_is (by omega) (by omega)) rfl) ?_
  refine w_ (p_move rfl rfl) ?_
  refine aw_pick [3, 6, 7, 8] rfl ?_
  refine aw_nil ?_
  refine ⟨_, ?_, i + 1, r1, by omega, rfl, rfl, rfl⟩
  omega
 ·have hi : ps.take i = ps := List.take_of_length_le (by omega)
  refine ac_pub (L2 := _) 0 [3] rfl (allAre1 rfl) (by rw [List.length_map, hi]; omega) (by rw [List.length_map, hi]; omega) rfl ?_
  refine ac_slotEq 3 (y := .one (pls ps)) rfl (by rw [hi]; rfl) ?_
  refine ac_seq (ac_reg ?_)
  refine w_ (p_cmp rfl rfl rfl rfl) ?_
  refine aw_nil ?_
  refine ac_seq ?_
  refine ac_f rfl (decide_eq_false (by omega)) ?_
  refine ac_exit ?_
  repeat refine seqQ_exit ?_
  refine blkQ_here ?_
  refine ac_seq (ac_reg ?_)
  refine w_ (p_move rfl rfl) ?_
  refine w_ (p_assign rfl rfl) ?_
  refine aw_nil ?_
  refine ac_ret ?_
  exact retB_1 Tryz.results233 (rv_tmp rfl rfl) (rfl)
theorem d_det_may {M : List (List (List Int))} (hM : ∀ r ∈ M, r.length = M.length) (h4 : M.length ≤ 4) : Does Tryz.prog 292 [.one (mats M)] (.one (.bool true)) := by
 refine does_ (n := 20) Tryz.func292 rfl Tryz.ntmps292 rfl ?_
 refine ac_seq (ac_reg ?_)
 refine w_ (p_assign rfl rfl) ?_
 refine aw_nil ?_
 refine ac_seq (ac_seq (ac_reg ?_))
 refine w_ (p_move rfl rfl) ?_
 refine w_ (p_len (m := M.length) Tryz.runUnderlying342 rfl (rlen_mats _) rfl) ?_
 refine w_ (p_move rfl rfl) ?_
 refine aw_nil ?_
 refine ac_block ?_
 refine ac_pick [0, 5, 6, 7] rfl ?_
 refine ac_loop (fun m L B => ∃ i, i ≤ M.length ∧ m = M.length - i ∧ L = [(0, .one (mats M)), (5, .one (mats M)), (6, .one (.int .i64 (((M.length : Nat) : Int)))), (7, .one (.int .i64 (((i : Nat) : Int))))] ∧ B = []) (m := _) ⟨0, Nat.zero_le _, rfl, rfl, rfl⟩ ?_
 rintro m L B ⟨i, hp0, hm, rfl, rfl⟩
 by_cases hlt : i < M.length
 ·obtain ⟨r, hr⟩ : ∃ r, M[i]? = some r := ⟨_, List.getElem?_eq_getElem hlt⟩
  have hrl := hM r (List.mem_of_getElem? hr)
  refine ac_seq (ac_reg ?_)
  refine w_ (p_cmp rfl rfl rfl rfl) ?_
  refine aw_nil ?_
  refine ac_seq ?_
  refine ac_t rfl (decide_eq_true (by omega)) ?_
  refine ac_skip ?_
  refine ac_seq (ac_block (ac_seq (ac_reg ?_)))
  refine w_ (p_index (i) Tryz.runUnderlying342 Tryz.sizeOf287 rfl rfl (rfl) (map_get hr) rfl rfl) ?_
  refine w_ (p_loadSh Tryz.isAgg287 Tryz.sizeOf287 rfl rfl rfl rfl) ?_
  refine w_ (p_assign rfl rfl) ?_
  refine aw_nil ?_
  refine ac_seq (ac_reg ?_)
  refine w_ (p_move rfl rfl) ?_
  refine w_ (p_len (m := r.length) Tryz.runUnderlying287 rfl (rlen_pls _) rfl) ?_
  refine w_ (p_move rfl rfl) ?_
  refine w_ (p_len (m := M.length) Tryz.runUnderlying342 rfl (rlen_mats _) rfl) ?_
  refine w_ (p_cmp rfl rfl rfl rfl) ?_
  refine aw_nil ?_
  refine ac_f rfl (decide_eq_false (by omega)) ?_
  refine ac_skip ?_
  refine ac_reg ?_
  refine w_ (p_add (r := ((i + 1 : Nat) : Int)) rfl rfl (i64_is (by omega) (by omega)) rfl) ?_
  refine w_ (p_move rfl rfl) ?_
  refine aw_pick [0, 5, 6, 7] rfl ?_
  refine aw_nil ?_
  refine ⟨_, ?_, i + 1, by omega, rfl, rfl, rfl⟩
  omega
 ·skip
  refine ac_seq (ac_reg ?_)
  refine w_ (p_cmp rfl rfl rfl rfl) ?_
  refine aw_nil ?_
  refine ac_seq ?_
  refine ac_f rfl (decide_eq_false (by omega)) ?_
  refine ac_exit ?_
  repeat refine seqQ_exit ?_
  refine blkQ_here ?_
  refine ac_seq (ac_reg ?_)
  refine w_ (p_move rfl rfl) ?_
  refine w_ (p_len (m := M.length) Tryz.runUnderlying342 rfl (rlen_mats _) rfl) ?_
  refine w_ (p_cmp rfl rfl rfl rfl) ?_
  refine w_ (p_assign rfl rfl) ?_
  refine aw_nil ?_
  refine ac_ret ?_
  exact retB_1 Tryz.results292 (rv_tmp rfl rfl) (by rw [decide_eq_true (by omega)])
theorem d_det_minor {M : List (List (List Int))} {i : Nat} (hl : M.length ≤ 4) (hr : ∀ r ∈ M, r.length ≤ 4 ∧ ∀ p ∈ r, SmallP p) : Does Tryz.prog 319 [.one (.int .i64 (((i : Nat) : Int))), .one (.int .i64 0), .one (mats M)] (.one (mats ((minor0 i M)))) := by
 refine does_ (n := 45) Tryz.func319 rfl Tryz.ntmps319 rfl ?_
 refine ac_seq (ac_reg ?_)
 refine w_ (p_assign rfl rfl) ?_
 refine aw_nil ?_
 refine ac_seq (ac_reg ?_)
 refine w_ (p_assign rfl rfl) ?_
 refine aw_nil ?_
 refine ac_seq (ac_seq (ac_reg ?_))
 refine w_ (p_move rfl rfl) ?_
 refine w_ (p_len (m := M.length) Tryz.runUnderlying342 rfl (rlen_mats _) rfl) ?_
 refine w_ (p_move rfl rfl) ?_
 refine aw_nil ?_
 refine ac_block ?_
 refine ac_ownNil [7] 287 1 rfl (allAre1 rfl) rfl ?_
 refine ac_pick [0, 1, 7, 13, 14, 15] rfl ?_
 refine ac_loop (fun m L B => ∃ k r O, k ≤ M.length ∧ O = minor0 i (M.take k) ∧ O.length ≤ k ∧ m = M.length - k ∧ L = [(0, .one (.int .i64 (((i : Nat) : Int)))), (1, .one (.int .i64 0)), (7, .one (.orow r 1 0 O.length)), (13, .one (mats M)), (14, .one (.int .i64 (((M.length : Nat) : Int)))), (15, .one (.int .i64 (((k : Nat) : Int))))] ∧ B = [.row r 287 1 (O.map (fun r => [pls r]))]) (m := _) ⟨0, none, [], Nat.zero_le _, rfl, Nat.zero_le _, rfl, rfl, rfl⟩ ?_
 rintro m L B ⟨k, r, O, hp0, hp1, hp2, hm, rfl, rfl⟩
 by_cases hlt : k < M.length
 ·obtain ⟨w, hw⟩ : ∃ w, M[k]? = some w := ⟨_, List.getElem?_eq_getElem hlt⟩
  obtain ⟨hwl, hwp⟩ := hr w (List.mem_of_getElem? hw)
  by_cases hki : k = i
  ·skip
   refine ac_seq (ac_reg ?_)
   refine w_ (p_cmp rfl rfl rfl rfl) ?_
   refine aw_nil ?_
   refine ac_seq ?_
   refine ac_t rfl (decide_eq_true (by omega)) ?_
   refine ac_skip ?_
   refine ac_seq (ac_block (ac_seq (ac_reg ?_)))
   refine w_ (p_move rfl rfl) ?_
   refine w_ (p_index (k) Tryz.runUnderlying342 Tryz.sizeOf287 rfl rfl (rfl) (map_get hw) rfl rfl) ?_
   refine w_ (p_loadSh Tryz.isAgg287 Tryz.sizeOf287 rfl rfl rfl rfl) ?_
   refine w_ (p_assign rfl rfl) ?_
   refine w_ (p_assign rfl rfl) ?_
   refine aw_nil ?_
   refine ac_seq (ac_seq (ac_reg ?_))
   refine w_ (p_move rfl rfl) ?_
   refine w_ (p_move rfl rfl) ?_
   refine w_ (p_cmp rfl rfl rfl rfl) ?_
   refine aw_nil ?_
   refine ac_t rfl (decide_eq_true (by omega)) ?_
   refine ac_exit ?_
   repeat refine seqQ_exit ?_
   refine blkQ_here ?_
   refine ac_reg ?_
   refine w_ (p_add (r := ((k + 1 : Nat) : Int)) rfl rfl (i64_is (by omega) (by omega)) rfl) ?_
   refine w_ (p_move rfl rfl) ?_
   refine aw_pick [0, 1, 7, 13, 14, 15] rfl ?_
   refine aw_nil ?_
   refine ⟨_, ?_, k + 1, r, O, by omega, by rw [hp1, hki, minor_eq (by rw [← hki]; exact hw)], by omega, rfl, rfl, rfl⟩
   omega
  ·skip
   refine ac_seq (ac_reg ?_)
   refine w_ (p_cmp rfl rfl rfl rfl) ?_
   refine aw_nil ?_
   refine ac_seq ?_
   refine ac_t rfl (decide_eq_true (by omega)) ?_
   refine ac_skip ?_
   refine ac_seq (ac_block (ac_seq (ac_reg ?_)))
   refine w_ (p_move rfl rfl) ?_
   refine w_ (p_index (k) Tryz.runUnderlying342 Tryz.sizeOf287 rfl rfl (rfl) (map_get hw) rfl rfl) ?_
   refine w_ (p_loadSh Tryz.isAgg287 Tryz.sizeOf287 rfl rfl rfl rfl) ?_
   refine w_ (p_assign rfl rfl) ?_
   refine w_ (p_assign rfl rfl) ?_
   refine aw_nil ?_
   refine ac_seq (ac_seq (ac_reg ?_))
   refine w_ (p_move rfl rfl) ?_
   refine w_ (p_move rfl rfl) ?_
   refine w_ (p_cmp rfl rfl rfl rfl) ?_
   refine aw_nil ?_
   refine ac_f rfl (decide_eq_false (by omega)) ?_
   refine ac_skip ?_
   refine ac_seq (ac_reg ?_)
   refine w_ (p_assign rfl rfl) ?_
   refine aw_nil ?_
   refine ac_seq (ac_seq (ac_reg ?_))
   refine w_ (p_move rfl rfl) ?_
   refine w_ (p_len (m := w.length) Tryz.runUnderlying287 rfl (rlen_pls _) rfl) ?_
   refine w_ (p_move rfl rfl) ?_
   refine aw_nil ?_
   refine ac_block ?_
   refine ac_ownNil [10] 52 1 rfl (allAre1 rfl) rfl ?_
   refine ac_pick [0, 1, 7, 13, 14, 15, 23, 24, 10, 25] rfl ?_
   refine ac_loop (fun m L B => ∃ c q Q, c ≤ w.length ∧ Q = (w.take c).drop 1 ∧ Q.length ≤ c ∧ m = w.length - c ∧ L = [(0, .one (.int .i64 (((i : Nat) : Int)))), (1, .one (.int .i64 0)), (7, .one (.orow r 1 0 O.length)), (13, .one (mats M)), (14, .one (.int .i64 (((M.length : Nat) : Int)))), (15, .one (.int .i64 (((k : Nat) : Int)))), (23, .one (pls w)), (24, .one (.int .i64 (((w.length : Nat) : Int)))), (10, .one (.orow q 1 0 Q.length)), (25, .one (.int .i64 (((c : Nat) : Int))))] ∧ B = [.row q 52 1 (Q.map (fun p => [pl p])), .row r 287 1 (O.map (fun r => [pls r]))]) (m := _) ⟨0, none, [], Nat.zero_le _, rfl, Nat.zero_le _, rfl, rfl, rfl⟩ ?_
   rintro m L B ⟨c, q, Q, hq0, hq1, hq2, hm, rfl, rfl⟩
   by_cases h2 : c < w.length
   ·obtain ⟨p, hpc⟩ : ∃ p, w[c]? = some p := ⟨_, List.getElem?_eq_getElem h2⟩
    have hpp := hwp p (List.mem_of_getElem? hpc)
    by_cases hc0 : c = 0
    ·skip
     refine ac_seq (ac_reg ?_)
     refine w_ (p_cmp rfl rfl rfl rfl) ?_
     refine aw_nil ?_
     refine ac_seq ?_
     refine ac_t rfl (decide_eq_true (by omega)) ?_
     refine ac_skip ?_
     refine ac_seq (ac_block (ac_seq (ac_reg ?_)))
     refine w_ (p_move rfl rfl) ?_
     refine w_ (p_index (c) Tryz.runUnderlying287 Tryz.sizeOf52 rfl rfl (rfl) (map_get hpc) rfl rfl) ?_
     refine w_ (p_loadSh Tryz.isAgg52 Tryz.sizeOf52 rfl rfl rfl rfl) ?_
     refine w_ (p_assign rfl rfl) ?_
     refine w_ (p_assign rfl rfl) ?_
     refine aw_nil ?_
     refine ac_seq (ac_reg ?_)
     refine w_ (p_move rfl rfl) ?_
     refine w_ (p_move rfl rfl) ?_
     refine w_ (p_cmp rfl rfl rfl rfl) ?_
     refine aw_nil ?_
     refine ac_f rfl (decide_eq_false (fun h => h (by omega))) ?_
     refine ac_skip ?_
     refine ac_reg ?_
     refine w_ (p_add (r := ((c + 1 : Nat) : Int)) rfl rfl (i64_is (by omega) (by omega)) rfl) ?_
     refine w_ (p_move rfl rfl) ?_
     refine aw_pick [0, 1, 7, 13, 14, 15, 23, 24, 10, 25] rfl ?_
     refine aw_nil ?_
     refine ⟨_, ?_, c + 1, q, Q, by omega, by rw [hq1, hc0]; exact (drop_zero' w).symm, by omega, rfl, rfl, rfl⟩
     omega
    ·skip
     refine ac_seq (ac_reg ?_)
     refine w_ (p_cmp rfl rfl rfl rfl) ?_
     refine aw_nil ?_
     refine ac_seq ?_
     refine ac_t rfl (decide_eq_true (by omega)) ?_
     refine ac_skip ?_
     refine ac_seq (ac_block (ac_seq (ac_reg ?_)))
     refine w_ (p_move rfl rfl) ?_
     refine w_ (p_index (c) Tryz.runUnderlying287 Tryz.sizeOf52 rfl rfl (rfl) (map_get hpc) rfl rfl) ?_
     refine w_ (p_loadSh Tryz.isAgg52 Tryz.sizeOf52 rfl rfl rfl rfl) ?_
     refine w_ (p_assign rfl rfl) ?_
     refine w_ (p_assign rfl rfl) ?_
     refine aw_nil ?_
     refine ac_seq (ac_reg ?_)
     refine w_ (p_move rfl rfl) ?_
     refine w_ (p_move rfl rfl) ?_
     refine w_ (p_cmp rfl rfl rfl rfl) ?_
     refine aw_nil ?_
     refine ac_t rfl (decide_eq_true (by omega)) ?_
     refine ac_reg ?_
     refine w_ (p_move rfl rfl) ?_
     refine w_ (p_move rfl rfl) ?_
     refine w_ (p_call Tryz.func189 rfl rfl rfl rfl (d_poly_NormT hpp.1 hpp.2.1 hpp.2.2) rfl) ?_
     refine w_ (p_lit Tryz.runUnderlying287 Tryz.sizeOf52 Tryz.zeroValue52 rfl rfl rfl rfl rfl rfl rfl rfl rfl rfl) ?_
     refine a_append (ls2 := (Q ++ [p]).map (fun p => [pl p])) (m2 := (Q ++ [p]).length) 0 Tryz.runUnderlying287 Tryz.runUnderlying287 Tryz.typeInfo52 rfl rfl Tryz.sizeOf52 Tryz.zeroValue52 rfl rfl rfl rfl rfl rfl rfl (by rw [List.length_map]; exact Nat.le_refl _) (one_w rfl) (one_f rfl) (by show _ + 1 < _; omega) (by rw [List.take_of_length_le (by rw [List.length_map]; exact Nat.le_refl _), List.map_append]; rfl) (by rw [List.length_append]; rfl) fun r1 => ?_
     refine w_ (p_assign rfl rfl) ?_
     refine aw_nil ?_
     refine ac_reg ?_
     refine w_ (p_add (r := ((c + 1 : Nat) : Int)) rfl rfl (i64_is (by omega) (by omega)) rfl) ?_
     refine w_ (p_move rfl rfl) ?_
     refine aw_pick [0, 1, 7, 13, 14, 15, 23, 24, 10, 25] rfl ?_
     refine aw_nil ?_
     refine ⟨_, ?_, c + 1, r1, (Q ++ [p]), by omega, by rw [hq1, drop_snoc hpc (by omega)], by rw [List.length_append]; show Q.length + 1 ≤ _; omega, rfl, rfl, rfl⟩
     omega
   ·have hQ : Q = w.drop 1 := by rw [hq1, List.take_of_length_le (by omega)]
    refine ac_pub (L2 := _) 0 [10] rfl (allAre1 rfl) (by rw [List.length_map]) (by rw [List.length_map]; omega) rfl ?_
    refine ac_slotEq 10 (y := .one (pls (w.drop 1))) rfl (by rw [hQ]; rfl) ?_
    refine ac_seq (ac_reg ?_)
    refine w_ (p_cmp rfl rfl rfl rfl) ?_
    refine aw_nil ?_
    refine ac_seq ?_
    refine ac_f rfl (decide_eq_false (by omega)) ?_
    refine ac_exit ?_
    repeat refine seqQ_exit ?_
    refine blkQ_here ?_
    refine ac_reg ?_
    refine w_ (p_move rfl rfl) ?_
    refine w_ (p_move rfl rfl) ?_
    refine w_ (p_lit Tryz.runUnderlying342 Tryz.sizeOf287 Tryz.zeroValue287 rfl rfl rfl rfl rfl rfl rfl rfl rfl rfl) ?_
    refine a_append (ls2 := (O ++ [w.drop 1]).map (fun r => [pls r])) (m2 := (O ++ [w.drop 1]).length) 0 Tryz.runUnderlying342 Tryz.runUnderlying342 Tryz.typeInfo287 rfl rfl Tryz.sizeOf287 Tryz.zeroValue287 rfl rfl rfl rfl rfl rfl rfl (by rw [List.length_map]; exact Nat.le_refl _) (one_w rfl) (one_f rfl) (by show _ + 1 < _; omega) (by rw [List.take_of_length_le (by rw [List.length_map]; exact Nat.le_refl _), List.map_append]; rfl) (by rw [List.length_append]; rfl) fun r2 => ?_
    refine w_ (p_assign rfl rfl) ?_
    refine aw_nil ?_
    refine ac_reg ?_
    refine w_ (p_add (r := ((k + 1 : Nat) : Int)) rfl rfl (i64_is (by omega) (by omega)) rfl) ?_
    refine w_ (p_move rfl rfl) ?_
    refine aw_pick [0, 1, 7, 13, 14, 15] rfl ?_
    refine aw_nil ?_
    refine ⟨_, ?_, k + 1, r2, (O ++ [w.drop 1]), by omega, by rw [hp1, minor_ne hw hki], by rw [List.length_append]; show O.length + 1 ≤ _; omega, rfl, rfl, rfl⟩
    omega
 ·have hO : O = minor0 i M := by rw [hp1, List.take_of_length_le (by omega)]
  refine ac_pub (L2 := _) 0 [7] rfl (allAre1 rfl) (by rw [List.length_map]) (by rw [List.length_map]; omega) rfl ?_
  refine ac_slotEq 7 (y := .one (mats (minor0 i M))) rfl (by rw [hO]; rfl) ?_
  refine ac_seq (ac_reg ?_)
  refine w_ (p_cmp rfl rfl rfl rfl) ?_
  refine aw_nil ?_
  refine ac_seq ?_
  refine ac_f rfl (decide_eq_false (by omega)) ?_
  refine ac_exit ?_
  repeat refine seqQ_exit ?_
  refine blkQ_here ?_
  refine ac_seq (ac_reg ?_)
  refine w_ (p_move rfl rfl) ?_
  refine w_ (p_assign rfl rfl) ?_
  refine aw_nil ?_
  refine ac_ret ?_
  exact retB_1 Tryz.results319 (rv_tmp rfl rfl) (rfl)
theorem rows_small {cs : List (Nat × Nat)} {M : List (List (List Int))} (hM : M.length ≤ 4) (hcs : cs.length = M.length) (hc : ColsOk cs) (hr : ∀ r ∈ M, RowB cs r) (hb : bsum cs ≤ 1000000000) : ∀ r ∈ M, r.length ≤ 4 ∧ ∀ p ∈ r, SmallP p := by
 intro r h
 have h1 := hr r h
 refine ⟨by rw [h1.len]; omega, fun p hp => ?_⟩
 obtain ⟨h2, c, h3, h4, h5⟩ := h1.get p hp
 have := hc c h3
 have := bsum_le h3
 exact ⟨h2, by omega, bd_mono h5 (by omega)⟩
theorem lsum_le : ∀ {cs : List (Nat × Nat)}, ColsOk cs → lsum cs ≤ 31 * cs.length
 | [], _ => Nat.le_refl _
 | c :: cs, h => by
  have h1 := h c (List.mem_cons_self ..)
  have h2 := lsum_le (cs := cs) fun x hx => h x (List.mem_cons_of_mem _ hx)
  simp only [lsum, List.length_cons]; omega
theorem d_det_sum0 {M : List (List (List Int))} (hM : M.length = 0) : Does Tryz.prog 293 [.one (mats M)] (.one (pl (det 0 M))) := by
 refine does_ (n := 44) Tryz.func293 rfl Tryz.ntmps293 rfl ?_
 refine ac_seq (ac_reg ?_)
 refine w_ (p_assign rfl rfl) ?_
 refine aw_nil ?_
 refine ac_seq (ac_seq (ac_reg ?_))
 refine w_ (p_move rfl rfl) ?_
 refine w_ (p_len (m := M.length) Tryz.runUnderlying342 rfl (rlen_mats _) rfl) ?_
 refine w_ (p_cmp rfl rfl rfl rfl) ?_
 refine aw_nil ?_
 refine ac_t rfl (decide_eq_true (by omega)) ?_
 refine ac_seq (ac_reg ?_)
 refine w_ (p_lit Tryz.runUnderlying23 Tryz.sizeOf3 Tryz.zeroValue3 rfl rfl rfl rfl rfl rfl rfl rfl rfl rfl) ?_
 refine w_ (p_call Tryz.func113 rfl rfl rfl rfl (d_poly_Of (p := [1]) (by decide) (by decide)) rfl) ?_
 refine w_ (p_assign rfl rfl) ?_
 refine aw_nil ?_
 refine ac_ret ?_
 exact retB_1 Tryz.results293 (rv_tmp rfl rfl) (rfl)
set_option maxRecDepth 20000 in
theorem d_det_sum1 {dn : Nat} {c0 : Nat × Nat} {cs : List (Nat × Nat)} {M : List (List (List Int))} (hM : M.length = dn + 1) (hcs : cs.length = dn) (h4 : dn + 1 ≤ 4) (hc : ColsOk (c0 :: cs)) (hr : ∀ r ∈ M, RowB (c0 :: cs) r) (hb : bsum (c0 :: cs) ≤ 1000000000)
  (ih : ∀ M' : List (List (List Int)), M'.length = dn → (∀ r ∈ M', RowB cs r) → Does Tryz.prog 293 [.one (mats M')] (.one (pl (det dn M')))) : Does Tryz.prog 293 [.one (mats M)] (.one (pl (det (dn + 1) M))) := by
 refine does_ (n := 44) Tryz.func293 rfl Tryz.ntmps293 rfl ?_
 have hsm := rows_small (by omega) (by simp; omega) hc hr hb
 have hf : ∀ i, i < M.length → DetB cs (det dn (minor0 i M)) := fun i hi => det_b dn cs (minor0 i M) hcs (by rw [minor_len hi]; omega) (by omega) (fun x hx => hc x (List.mem_cons_of_mem _ hx)) (minor_rows hr i)
 have hbs : c0.2 + bsum cs ≤ 1000000000 := hb
 ·skip
  refine ac_seq (ac_reg ?_)
  refine w_ (p_assign rfl rfl) ?_
  refine aw_nil ?_
  refine ac_seq (ac_seq (ac_reg ?_))
  refine w_ (p_move rfl rfl) ?_
  refine w_ (p_len (m := M.length) Tryz.runUnderlying342 rfl (rlen_mats _) rfl) ?_
  refine w_ (p_cmp rfl rfl rfl rfl) ?_
  refine aw_nil ?_
  refine ac_f rfl (decide_eq_false (by omega)) ?_
  refine ac_skip ?_
  refine ac_seq (ac_reg ?_)
  refine w_ (p_assign rfl rfl) ?_
  refine aw_nil ?_
  refine ac_seq (ac_seq (ac_reg ?_))
  refine w_ (p_move rfl rfl) ?_
  refine w_ (p_len (m := M.length) Tryz.runUnderlying342 rfl (rlen_mats _) rfl) ?_
  refine w_ (p_move rfl rfl) ?_
  refine aw_nil ?_
  refine ac_block ?_
  refine ac_slotNil 3 rfl ?_
  refine ac_pick [0, 3, 12, 13, 14] rfl ?_
  refine ac_loop (fun m L B => ∃ i d, i ≤ M.length ∧ d = detK (det dn) M i ∧ m = M.length - i ∧ L = [(0, .one (mats M)), (3, .one (pl d)), (12, .one (mats M)), (13, .one (.int .i64 (((M.length : Nat) : Int)))), (14, .one (.int .i64 (((i : Nat) : Int))))] ∧ B = []) (m := _) ⟨0, [], Nat.zero_le _, rfl, rfl, rfl, rfl⟩ ?_
  rintro m L B ⟨i, d, hp0, hp1, hm, rfl, rfl⟩
  by_cases hlt : i < M.length
  ·obtain ⟨r, hr1⟩ : ∃ r, M[i]? = some r := ⟨_, List.getElem?_eq_getElem hlt⟩
   obtain ⟨p, hp0, hpe, tp, lp, bp⟩ := head_of hr hr1
   have hcc := hc c0 (List.mem_cons_self ..)
   have hdk := detK_b hc hr hf i (by omega) (by omega)
   rw [← hp1] at hdk
   have hmi := hf i hlt
   have hls := lsum_le (cs := cs) (fun x hx => hc x (List.mem_cons_of_mem _ hx))
   have hm1 := len_pmul p (det dn (minor0 i M))
   have hm2 := bd_pmul (u := 5) bp hmi.2.2 (by omega)
   have hdl := hdk.2.1
   have hml := hmi.2.1
   by_cases h0 : p.length = 0
   ·skip
    refine ac_seq (ac_reg ?_)
    refine w_ (p_cmp rfl rfl rfl rfl) ?_
    refine aw_nil ?_
    refine ac_seq ?_
    refine ac_t rfl (decide_eq_true (by omega)) ?_
    refine ac_skip ?_
    refine ac_seq (ac_block (ac_seq (ac_reg ?_)))
    refine w_ (p_move rfl rfl) ?_
    refine w_ (p_index (i) Tryz.runUnderlying342 Tryz.sizeOf287 rfl rfl (rfl) (map_get hr1) rfl rfl) ?_
    refine w_ (p_loadSh Tryz.isAgg287 Tryz.sizeOf287 rfl rfl rfl rfl) ?_
    refine w_ (p_assign rfl rfl) ?_
    refine w_ (p_assign rfl rfl) ?_
    refine aw_nil ?_
    refine ac_seq (ac_seq (ac_reg ?_))
    refine w_ (p_move rfl rfl) ?_
    refine w_ (p_index (0) Tryz.runUnderlying287 Tryz.sizeOf52 rfl rfl (rfl) (map_get hp0) rfl rfl) ?_
    refine w_ (p_loadSh Tryz.isAgg52 Tryz.sizeOf52 rfl rfl rfl rfl) ?_
    refine w_ (p_call Tryz.func189 rfl rfl rfl rfl (d_poly_NormT tp (by omega) (bd_mono bp (by omega))) rfl) ?_
    refine w_ (p_len (m := p.length) Tryz.runUnderlying52 rfl (rlen_pl _) rfl) ?_
    refine w_ (p_cmp rfl rfl rfl rfl) ?_
    refine aw_nil ?_
    refine ac_t rfl (decide_eq_true (by omega)) ?_
    refine ac_exit ?_
    repeat refine seqQ_exit ?_
    refine blkQ_here ?_
    refine ac_reg ?_
    refine w_ (p_add (r := ((i + 1 : Nat) : Int)) rfl rfl (i64_is (by omega) (by omega)) rfl) ?_
    refine w_ (p_move rfl rfl) ?_
    refine aw_pick [0, 3, 12, 13, 14] rfl ?_
    refine aw_nil ?_
    refine ⟨_, ?_, i + 1, d, by omega, by rw [hp1]; show _ = detK (det dn) M (i + 1); simp only [detK]; rw [hpe, if_pos h0], rfl, rfl, rfl⟩
    omega
   ·by_cases h2 : i % 2 = 0
    ·skip
     refine ac_seq (ac_reg ?_)
     refine w_ (p_cmp rfl rfl rfl rfl) ?_
     refine aw_nil ?_
     refine ac_seq ?_
     refine ac_t rfl (decide_eq_true (by omega)) ?_
     refine ac_skip ?_
     refine ac_seq (ac_block (ac_seq (ac_reg ?_)))
     refine w_ (p_move rfl rfl) ?_
     refine w_ (p_index (i) Tryz.runUnderlying342 Tryz.sizeOf287 rfl rfl (rfl) (map_get hr1) rfl rfl) ?_
     refine w_ (p_loadSh Tryz.isAgg287 Tryz.sizeOf287 rfl rfl rfl rfl) ?_
     refine w_ (p_assign rfl rfl) ?_
     refine w_ (p_assign rfl rfl) ?_
     refine aw_nil ?_
     refine ac_seq (ac_seq (ac_reg ?_))
     refine w_ (p_move rfl rfl) ?_
     refine w_ (p_index (0) Tryz.runUnderlying287 Tryz.sizeOf52 rfl rfl (rfl) (map_get hp0) rfl rfl) ?_
     refine w_ (p_loadSh Tryz.isAgg52 Tryz.sizeOf52 rfl rfl rfl rfl) ?_
     refine w_ (p_call Tryz.func189 rfl rfl rfl rfl (d_poly_NormT tp (by omega) (bd_mono bp (by omega))) rfl) ?_
     refine w_ (p_len (m := p.length) Tryz.runUnderlying52 rfl (rlen_pl _) rfl) ?_
     refine w_ (p_cmp rfl rfl rfl rfl) ?_
     refine aw_nil ?_
     refine ac_f rfl (decide_eq_false (by omega)) ?_
     refine ac_skip ?_
     refine ac_seq ?_
     refine ac_draw mixed_ 7 [25, 26, 27, 28, 29, 30, 31] [[], [0], [1], [], [], [3, 4], [5]] [.one (pls r), .one (.sh [pl p]), .one (pl p), .one (.int .i64 (((i : Nat) : Int))), .one (mats M), .one (mats ((minor0 i M))), .one (pl ((det dn (minor0 i M))))] rfl rfl rfl ⟨p_move rfl rfl, p_index (0) Tryz.runUnderlying287 Tryz.sizeOf52 rfl rfl (rfl) (map_get hp0) rfl rfl, p_loadSh Tryz.isAgg52 Tryz.sizeOf52 rfl rfl rfl rfl, p_move rfl rfl, p_move rfl rfl, p_call Tryz.func319 rfl rfl rfl rfl (d_det_minor (by omega) hsm) rfl, p_call Tryz.func293 rfl rfl rfl rfl (ih _ (by rw [minor_len hlt]; omega) (minor_rows hr i)) rfl, trivial⟩ rfl ?_
     refine w_ (p_call Tryz.func237 rfl rfl rfl rfl (d_poly_Mul tp hmi.1 (by omega) (by omega) bp hmi.2.2 (by omega)) rfl) ?_
     refine w_ (p_assign rfl rfl) ?_
     refine aw_nil ?_
     refine ac_seq (ac_reg ?_)
     refine w_ (p_move rfl rfl) ?_
     refine w_ (p_rem (r := ((i % 2 : Nat) : Int)) rfl rfl (by omega) (by rw [show Int.tmod ((i : Nat) : Int) 2 = ((i % 2 : Nat) : Int) from rfl] <;> exact wrap64_of (by omega) (by omega)) rfl) ?_
     refine w_ (p_cmp rfl rfl rfl rfl) ?_
     refine aw_nil ?_
     refine ac_t rfl (decide_eq_true (by omega)) ?_
     refine ac_reg ?_
     refine w_ (p_move rfl rfl) ?_
     refine w_ (p_move rfl rfl) ?_
     refine w_ (p_call Tryz.func236 rfl rfl rfl rfl (d_poly_Add (by omega) (by omega) (bd_mono hdk.2.2 (by omega)) (bd_mono hm2 (by omega))) rfl) ?_
     refine w_ (p_assign rfl rfl) ?_
     refine aw_nil ?_
     refine ac_reg ?_
     refine w_ (p_add (r := ((i + 1 : Nat) : Int)) rfl rfl (i64_is (by omega) (by omega)) rfl) ?_
     refine w_ (p_move rfl rfl) ?_
     refine aw_pick [0, 3, 12, 13, 14] rfl ?_
     refine aw_nil ?_
     refine ⟨_, ?_, i + 1, (padd d (pmul p ((det dn (minor0 i M))))), by omega, by show _ = detK (det dn) M (i + 1); simp only [detK]; rw [hpe, if_neg h0, if_pos h2, ← hp1], rfl, rfl, rfl⟩
     omega
    ·skip
     refine ac_seq (ac_reg ?_)
     refine w_ (p_cmp rfl rfl rfl rfl) ?_
     refine aw_nil ?_
     refine ac_seq ?_
     refine ac_t rfl (decide_eq_true (by omega)) ?_
     refine ac_skip ?_
     refine ac_seq (ac_block (ac_seq (ac_reg ?_)))
     refine w_ (p_move rfl rfl) ?_
     refine w_ (p_index (i) Tryz.runUnderlying342 Tryz.sizeOf287 rfl rfl (rfl) (map_get hr1) rfl rfl) ?_
     refine w_ (p_loadSh Tryz.isAgg287 Tryz.sizeOf287 rfl rfl rfl rfl) ?_
     refine w_ (p_assign rfl rfl) ?_
     refine w_ (p_assign rfl rfl) ?_
     refine aw_nil ?_
     refine ac_seq (ac_seq (ac_reg ?_))
     refine w_ (p_move rfl rfl) ?_
     refine w_ (p_index (0) Tryz.runUnderlying287 Tryz.sizeOf52 rfl rfl (rfl) (map_get hp0) rfl rfl) ?_
     refine w_ (p_loadSh Tryz.isAgg52 Tryz.sizeOf52 rfl rfl rfl rfl) ?_
     refine w_ (p_call Tryz.func189 rfl rfl rfl rfl (d_poly_NormT tp (by omega) (bd_mono bp (by omega))) rfl) ?_
     refine w_ (p_len (m := p.length) Tryz.runUnderlying52 rfl (rlen_pl _) rfl) ?_
     refine w_ (p_cmp rfl rfl rfl rfl) ?_
     refine aw_nil ?_
     refine ac_f rfl (decide_eq_false (by omega)) ?_
     refine ac_skip ?_
     refine ac_seq ?_
     refine ac_draw mixed_ 7 [25, 26, 27, 28, 29, 30, 31] [[], [0], [1], [], [], [3, 4], [5]] [.one (pls r), .one (.sh [pl p]), .one (pl p), .one (.int .i64 (((i : Nat) : Int))), .one (mats M), .one (mats ((minor0 i M))), .one (pl ((det dn (minor0 i M))))] rfl rfl rfl ⟨p_move rfl rfl, p_index (0) Tryz.runUnderlying287 Tryz.sizeOf52 rfl rfl (rfl) (map_get hp0) rfl rfl, p_loadSh Tryz.isAgg52 Tryz.sizeOf52 rfl rfl rfl rfl, p_move rfl rfl, p_move rfl rfl, p_call Tryz.func319 rfl rfl rfl rfl (d_det_minor (by omega) hsm) rfl, p_call Tryz.func293 rfl rfl rfl rfl (ih _ (by rw [minor_len hlt]; omega) (minor_rows hr i)) rfl, trivial⟩ rfl ?_
     refine w_ (p_call Tryz.func237 rfl rfl rfl rfl (d_poly_Mul tp hmi.1 (by omega) (by omega) bp hmi.2.2 (by omega)) rfl) ?_
     refine w_ (p_assign rfl rfl) ?_
     refine aw_nil ?_
     refine ac_seq (ac_reg ?_)
     refine w_ (p_move rfl rfl) ?_
     refine w_ (p_rem (r := ((i % 2 : Nat) : Int)) rfl rfl (by omega) (by rw [show Int.tmod ((i : Nat) : Int) 2 = ((i % 2 : Nat) : Int) from rfl] <;> exact wrap64_of (by omega) (by omega)) rfl) ?_
     refine w_ (p_cmp rfl rfl rfl rfl) ?_
     refine aw_nil ?_
     refine ac_f rfl (decide_eq_false (by omega)) ?_
     refine ac_reg ?_
     refine w_ (p_move rfl rfl) ?_
     refine w_ (p_move rfl rfl) ?_
     refine w_ (p_call Tryz.func171 rfl rfl rfl rfl (d_poly_Sub (by omega) (by omega) (bd_mono hdk.2.2 (by omega)) (bd_mono hm2 (by omega))) rfl) ?_
     refine w_ (p_assign rfl rfl) ?_
     refine aw_nil ?_
     refine ac_reg ?_
     refine w_ (p_add (r := ((i + 1 : Nat) : Int)) rfl rfl (i64_is (by omega) (by omega)) rfl) ?_
     refine w_ (p_move rfl rfl) ?_
     refine aw_pick [0, 3, 12, 13, 14] rfl ?_
     refine aw_nil ?_
     refine ⟨_, ?_, i + 1, (psub d (pmul p ((det dn (minor0 i M))))), by omega, by show _ = detK (det dn) M (i + 1); simp only [detK]; rw [hpe, if_neg h0, if_neg h2, ← hp1], rfl, rfl, rfl⟩
     omega
  ·have hi : i = M.length := by omega
   refine ac_seq (ac_reg ?_)
   refine w_ (p_cmp rfl rfl rfl rfl) ?_
   refine aw_nil ?_
   refine ac_seq ?_
   refine ac_f rfl (decide_eq_false (by omega)) ?_
   refine ac_exit ?_
   repeat refine seqQ_exit ?_
   refine blkQ_here ?_
   refine ac_seq (ac_reg ?_)
   refine w_ (p_move rfl rfl) ?_
   refine w_ (p_assign rfl rfl) ?_
   refine aw_nil ?_
   refine ac_ret ?_
   exact retB_1 Tryz.results293 (rv_tmp rfl rfl) (by rw [hp1, hi, hM]; rfl)
theorem d_det_sum : ∀ (n : Nat) (cs : List (Nat × Nat)) (M : List (List (List Int))), cs.length = n → M.length = n → n ≤ 4 → ColsOk cs → (∀ r ∈ M, RowB cs r) → bsum cs ≤ 1000000000 → Does Tryz.prog 293 [.one (mats M)] (.one (pl (det n M)))
 | 0, _, M, _, hM, _, _, _, _ => d_det_sum0 hM
 | m + 1, [], _, hcs, _, _, _, _, _ => by simp at hcs
 | m + 1, c :: cs, M, hcs, hM, h4, hc, hr, hb => d_det_sum1 hM (by simpa using hcs) h4 hc hr hb fun M' h1 h2 => d_det_sum m cs M' (by simpa using hcs) h1 (by omega) (fun x hx => hc x (List.mem_cons_of_mem _ hx)) h2 (by simp only [bsum] at hb; omega)
theorem d_det_Det {n : Nat} {cs : List (Nat × Nat)} {M : List (List (List Int))} (hcs : cs.length = n) (hM : M.length = n) (h4 : n ≤ 4) (hc : ColsOk cs) (hr : ∀ r ∈ M, RowB cs r) (hb : bsum cs ≤ 1000000000) : Does Tryz.prog 234 [.one (mats M)] (.tup [.one (pl (det n M)), .one (.int .i64 0)]) := by
 refine does_ (n := 9) Tryz.func234 rfl Tryz.ntmps234 rfl ?_
 refine ac_seq (ac_reg ?_)
 refine w_ (p_assign rfl rfl) ?_
 refine w_ (p_assign rfl rfl) ?_
 refine aw_nil ?_
 refine ac_seq (ac_seq (ac_reg ?_))
 refine w_ (p_move rfl rfl) ?_
 refine w_ (p_call Tryz.func292 rfl rfl rfl rfl (d_det_may (fun r h => by rw [(hr r h).len]; omega) (by omega)) rfl) ?_
 refine w_ (p_not rfl rfl) ?_
 refine aw_nil ?_
 refine ac_f rfl (rfl) ?_
 refine ac_skip ?_
 refine ac_seq (ac_reg ?_)
 refine w_ (p_move rfl rfl) ?_
 refine w_ (p_call Tryz.func293 rfl rfl rfl rfl (d_det_sum n cs M hcs hM h4 hc hr hb) rfl) ?_
 refine w_ (p_assign rfl rfl) ?_
 refine w_ (p_assign rfl rfl) ?_
 refine aw_nil ?_
 refine ac_ret ?_
 exact retB_2 Tryz.results234 (rv_tmp rfl rfl) (rv_tmp rfl rfl) (rfl)
theorem orow3_small {a : Crv} (h : Nml a) (c : Cb a) : ∀ p ∈ orow3 a, SmallP p := by
 intro p hp
 obtain ⟨h1, k, h2, h3, h4⟩ := (orow3_b h c).get p hp
 have : k.1 ≤ 31 ∧ k.2 ≤ 1048576 := by
  simp only [List.mem_cons, List.not_mem_nil, or_false] at h2
  rcases h2 with rfl | rfl | rfl <;> decide
 exact ⟨h1, by omega, bd_mono h4 (by omega)⟩
theorem orows3 {a b c : Crv} (ha : Nml a) (hb : Nml b) (hc : Nml c) (ca : Cb a) (cb : Cb b) (cc : Cb c) : ∀ r ∈ [orow3 a, orow3 b, orow3 c], RowB cols3 r := by
 intro r hr
 simp only [List.mem_cons, List.not_mem_nil, or_false] at hr
 rcases hr with rfl | rfl | rfl
 ·exact orow3_b ha ca
 ·exact orow3_b hb cb
 ·exact orow3_b hc cc
theorem d_pred_Orient1 {a : Crv} (ha : Nml a) (ca : Cb a) : Does Tryz.prog 232 [.agg [pl a.x, pl a.y, sg a.d, mg a.d]] (.one (pls ((orow3 a)))) := by
 refine does_ (n := 14) Tryz.func232 rfl Tryz.ntmps232 rfl ?_
 refine ac_seq (ac_reg ?_)
 refine a_box rfl rfl rfl fun g1 => ?_
 refine w_ (p_assign rfl rfl) ?_
 refine aw_nil ?_
 refine ac_seq (ac_reg ?_)
 refine w_ (p_loadOw 0 Tryz.isAgg74 Tryz.sizeOf74 rfl rfl rfl rfl rfl) ?_
 refine w_ (p_call Tryz.func170 rfl rfl rfl rfl (d_pred_norm (ha) (ca.mono (by omega) (by omega))) rfl) ?_
 refine a_storeOw 0 Tryz.sizeOf74 rfl rfl rfl rfl rfl rfl rfl ?_
 refine aw_nil ?_
 refine ac_seq (ac_reg ?_)
 refine w_ (p_fieldOw fa_74_0 rfl rfl) ?_
 refine w_ (p_loadOw 0 Tryz.isAgg52 Tryz.sizeOf52 rfl rfl rfl rfl rfl) ?_
 refine w_ (p_fieldOw fa_74_1 rfl rfl) ?_
 refine w_ (p_loadOw 0 Tryz.isAgg52 Tryz.sizeOf52 rfl rfl rfl rfl rfl) ?_
 refine w_ (p_fieldOw fa_74_2 rfl rfl) ?_
 refine w_ (p_loadOw 0 Tryz.isAgg55 Tryz.sizeOf55 rfl rfl rfl rfl rfl) ?_
 refine w_ (p_lit Tryz.runUnderlying52 Tryz.sizeOf55 Tryz.zeroValue55 rfl rfl rfl rfl rfl rfl rfl rfl rfl rfl) ?_
 refine w_ (p_lit Tryz.runUnderlying287 Tryz.sizeOf52 Tryz.zeroValue52 rfl rfl rfl rfl rfl rfl rfl rfl rfl rfl) ?_
 refine w_ (p_call Tryz.func233 rfl rfl rfl rfl (d_det_Row (ps := orow3 a) (show 3 ≤ 1000 by decide) (orow3_small ha ca)) rfl) ?_
 refine w_ (p_assign rfl rfl) ?_
 refine aw_nil ?_
 refine ac_ret ?_
 exact retB_1 Tryz.results232 (rv_tmp rfl rfl) (rfl)
set_option maxRecDepth 20000 in
theorem d_pred_Orient {a b c : Crv} (ha : Nml a) (hb : Nml b) (hc : Nml c) (ca : Cb a) (cb : Cb b) (cc : Cb c) : Does Tryz.prog 164 [.agg [pl a.x, pl a.y, sg a.d, mg a.d], .agg [pl b.x, pl b.y, sg b.d, mg b.d], .agg [pl c.x, pl c.y, sg c.d, mg c.d]] (.one (pl (porient a b c))) := by
 refine does_ (n := 25) Tryz.func164 rfl Tryz.ntmps164 rfl ?_
 refine ac_seq (ac_reg ?_)
 refine w_ (p_boxS rfl rfl rfl rfl) ?_
 refine w_ (p_boxS rfl rfl rfl rfl) ?_
 refine w_ (p_boxS rfl rfl rfl rfl) ?_
 refine w_ (p_assign rfl rfl) ?_
 refine aw_nil ?_
 refine ac_seq (ac_reg ?_)
 refine w_ (p_assign rfl rfl) ?_
 refine aw_nil ?_
 refine ac_seq ?_
 refine ac_draw mixed_ 15 [11, 12, 13, 14, 15, 16, 17, 18, 19, 20, 21, 10, 22, 23, 8] [[], [], [0, 1], [], [], [3, 4], [], [], [6, 7], [2, 5, 8], [9], [10], [11], [11], [12]] [.one (.fn 232 [] []), .agg [pl a.x, pl a.y, sg a.d, mg a.d], .one (pls ((orow3 a))), .one (.fn 232 [] []), .agg [pl b.x, pl b.y, sg b.d, mg b.d], .one (pls ((orow3 b))), .one (.fn 232 [] []), .agg [pl c.x, pl c.y, sg c.d, mg c.d], .one (pls ((orow3 c))), .one (.row [[pls ((orow3 a))], [pls ((orow3 b))], [pls ((orow3 c))]]), .tup [.one (pl (porient a b c)), .one (.int .i64 0)], .tup [.one (pl (porient a b c)), .one (.int .i64 0)], .one (pl (porient a b c)), .one (.int .i64 0), .one (pl (porient a b c))] rfl rfl rfl ⟨p_move rfl rfl, p_loadSh Tryz.isAgg74 Tryz.sizeOf74 rfl rfl rfl rfl, p_callFn rfl Tryz.func232 rfl rfl rfl rfl (d_pred_Orient1 ha ca) rfl, p_move rfl rfl, p_loadSh Tryz.isAgg74 Tryz.sizeOf74 rfl rfl rfl rfl, p_callFn rfl Tryz.func232 rfl rfl rfl rfl (d_pred_Orient1 hb cb) rfl, p_move rfl rfl, p_loadSh Tryz.isAgg74 Tryz.sizeOf74 rfl rfl rfl rfl, p_callFn rfl Tryz.func232 rfl rfl rfl rfl (d_pred_Orient1 hc cc) rfl, p_lit Tryz.runUnderlying342 Tryz.sizeOf287 Tryz.zeroValue287 rfl rfl rfl rfl rfl rfl rfl rfl rfl rfl, p_call Tryz.func234 rfl rfl rfl rfl (d_det_Det (n := 3) (cs := cols3) (M := [orow3 a, orow3 b, orow3 c]) rfl rfl (by decide) cols3_ok (orows3 ha hb hc ca cb cc) (by decide)) rfl, p_move rfl rfl, p_extract rfl rfl rfl, p_extract rfl rfl rfl, p_assign rfl rfl, trivial⟩ rfl ?_
 refine w_ (p_assign rfl rfl) ?_
 refine aw_nil ?_
 refine ac_seq (ac_reg ?_)
 refine w_ (p_move rfl rfl) ?_
 refine w_ (p_assign rfl rfl) ?_
 refine aw_nil ?_
 refine ac_ret ?_
 exact retB_1 Tryz.results164 (rv_tmp rfl rfl) (rfl)
set_option maxRecDepth 20000 in
theorem d_cert_Orient {a b c : Pt} {q : Rat} (ha : Nml a.c) (hb : Nml b.c) (hc : Nml c.c) (ca : Cb a.c) (cb : Cb b.c) (cc : Cb c.c) (hq : Qb q) : Does Tryz.prog 201 [.one (.int .i64 3), .agg [pl ([-q.num, (q.den : Int)]), sg q.num, mg q.num, sg ((q.den : Int)), mg ((q.den : Int)), sg q.num, mg q.num, sg ((q.den : Int)), mg ((q.den : Int))], .one (.row [[pl a.c.x, pl a.c.y, sg a.c.d, mg a.c.d, .int .i64 a.id], [pl b.c.x, pl b.c.y, sg b.c.d, mg b.c.d, .int .i64 b.id], [pl c.c.x, pl c.c.y, sg c.c.d, mg c.c.d, .int .i64 c.id]])] (.tup [.agg [.int .i64 ((((mkOrient q a b c))).kind), .int .i64 ((((mkOrient q a b c))).i0), .int .i64 ((((mkOrient q a b c))).i1), .int .i64 ((((mkOrient q a b c))).i2), .int .i64 ((((mkOrient q a b c))).i3), pl (((mkOrient q a b c)).p), .int .i64 (((mkOrient q a b c)).want)], .one (.int .i64 0)]) := by
 refine does_ (n := 139) Tryz.func201 rfl Tryz.ntmps201 rfl ?_
 refine ac_seq (ac_reg ?_)
 refine w_ (p_boxS rfl rfl rfl rfl) ?_
 refine a_alloc Tryz.zeroValue166 rfl rfl fun g1 => ?_
 refine w_ (p_assign rfl rfl) ?_
 refine aw_nil ?_
 refine ac_seq (ac_seq (ac_reg ?_))
 refine w_ (p_move rfl rfl) ?_
 refine w_ (p_len (m := 3) Tryz.runUnderlying22 rfl (rfl) rfl) ?_
 refine w_ (p_move rfl rfl) ?_
 refine w_ (p_call Tryz.func274 rfl rfl rfl rfl (d_cert_points3) rfl) ?_
 refine w_ (p_cmp (b := false) rfl rfl rfl rfl) ?_
 refine aw_nil ?_
 refine ac_f rfl (rfl) ?_
 refine ac_skip ?_
 refine ac_seq (ac_reg ?_)
 refine w_ (p_move rfl rfl) ?_
 refine w_ (p_build (bd_44) rfl rfl rfl rfl) ?_
 refine w_ (p_build (bd_166) rfl rfl rfl rfl) ?_
 refine a_alloc Tryz.zeroValue166 rfl rfl fun g2 => ?_
 refine a_storeOw 0 Tryz.sizeOf166 rfl rfl rfl rfl rfl rfl rfl ?_
 refine aw_nil ?_
 refine ac_seq (ac_seq (ac_reg ?_))
 refine w_ (p_move rfl rfl) ?_
 refine w_ (p_len (m := 3) Tryz.runUnderlying22 rfl (rfl) rfl) ?_
 refine w_ (p_move rfl rfl) ?_
 refine aw_nil ?_
 refine ac_block ?_
 refine ac_rounds 4 ?_
 refine ac_round ?_
 refine ac_seq (ac_reg ?_)
 refine w_ (p_cmp (b := true) rfl rfl rfl rfl) ?_
 refine aw_nil ?_
 refine ac_seq ?_
 refine ac_t rfl (rfl) ?_
 refine ac_skip ?_
 refine ac_seq (ac_block (ac_seq (ac_reg ?_)))
 refine w_ (p_move rfl rfl) ?_
 refine w_ (p_index (0) Tryz.runUnderlying22 Tryz.sizeOf76 rfl rfl rfl rfl rfl rfl) ?_
 refine w_ (p_loadSh Tryz.isAgg76 Tryz.sizeOf76 rfl rfl rfl rfl) ?_
 refine a_alloc Tryz.zeroValue76 rfl rfl fun g3 => ?_
 refine w_ (p_assign rfl rfl) ?_
 refine a_storeOw 0 Tryz.sizeOf76 rfl rfl rfl rfl rfl rfl rfl ?_
 refine aw_nil ?_
 refine ac_reg ?_
 refine w_ (p_move rfl rfl) ?_
 refine w_ (p_fieldOw fa_76_1 rfl rfl) ?_
 refine w_ (p_loadOw 0 Tryz.isAgg3 Tryz.sizeOf3 rfl rfl rfl rfl rfl) ?_
 refine w_ (p_fieldOw fa_166_0 rfl rfl) ?_
 refine w_ (p_fieldOw fa_44_1 rfl rfl) ?_
 refine w_ (p_indexArrOw 0 Tryz.runUnderlying42 Tryz.sizeOf3 rfl rfl rfl (by decide) rfl) ?_
 refine a_storeOw 1 Tryz.sizeOf3 rfl rfl rfl rfl rfl rfl rfl ?_
 refine aw_nil ?_
 refine ac_reg ?_
 refine w_ (p_add (r := ((1 : Nat) : Int)) rfl rfl (rfl) rfl) ?_
 refine w_ (p_move rfl rfl) ?_
 refine aw_nil ?_
 refine ac_round ?_
 refine ac_seq (ac_reg ?_)
 refine w_ (p_cmp (b := true) rfl rfl rfl rfl) ?_
 refine aw_nil ?_
 refine ac_seq ?_
 refine ac_t rfl (rfl) ?_
 refine ac_skip ?_
 refine ac_seq (ac_block (ac_seq (ac_reg ?_)))
 refine w_ (p_move rfl rfl) ?_
 refine w_ (p_index (1) Tryz.runUnderlying22 Tryz.sizeOf76 rfl rfl rfl rfl rfl rfl) ?_
 refine w_ (p_loadSh Tryz.isAgg76 Tryz.sizeOf76 rfl rfl rfl rfl) ?_
 refine a_alloc Tryz.zeroValue76 rfl rfl fun g4 => ?_
 refine w_ (p_assign rfl rfl) ?_
 refine a_storeOw 0 Tryz.sizeOf76 rfl rfl rfl rfl rfl rfl rfl ?_
 refine aw_nil ?_
 refine ac_reg ?_
 refine w_ (p_move rfl rfl) ?_
 refine w_ (p_fieldOw fa_76_1 rfl rfl) ?_
 refine w_ (p_loadOw 0 Tryz.isAgg3 Tryz.sizeOf3 rfl rfl rfl rfl rfl) ?_
 refine w_ (p_fieldOw fa_166_0 rfl rfl) ?_
 refine w_ (p_fieldOw fa_44_1 rfl rfl) ?_
 refine w_ (p_indexArrOw 1 Tryz.runUnderlying42 Tryz.sizeOf3 rfl rfl rfl (by decide) rfl) ?_
 refine a_storeOw 2 Tryz.sizeOf3 rfl rfl rfl rfl rfl rfl rfl ?_
 refine aw_nil ?_
 refine ac_reg ?_
 refine w_ (p_add (r := ((2 : Nat) : Int)) rfl rfl (rfl) rfl) ?_
 refine w_ (p_move rfl rfl) ?_
 refine aw_nil ?_
 refine ac_round ?_
 refine ac_seq (ac_reg ?_)
 refine w_ (p_cmp (b := true) rfl rfl rfl rfl) ?_
 refine aw_nil ?_
 refine ac_seq ?_
 refine ac_t rfl (rfl) ?_
 refine ac_skip ?_
 refine ac_seq (ac_block (ac_seq (ac_reg ?_)))
 refine w_ (p_move rfl rfl) ?_
 refine w_ (p_index (2) Tryz.runUnderlying22 Tryz.sizeOf76 rfl rfl rfl rfl rfl rfl) ?_
 refine w_ (p_loadSh Tryz.isAgg76 Tryz.sizeOf76 rfl rfl rfl rfl) ?_
 refine a_alloc Tryz.zeroValue76 rfl rfl fun g5 => ?_
 refine w_ (p_assign rfl rfl) ?_
 refine a_storeOw 0 Tryz.sizeOf76 rfl rfl rfl rfl rfl rfl rfl ?_
 refine aw_nil ?_
 refine ac_reg ?_
 refine w_ (p_move rfl rfl) ?_
 refine w_ (p_fieldOw fa_76_1 rfl rfl) ?_
 refine w_ (p_loadOw 0 Tryz.isAgg3 Tryz.sizeOf3 rfl rfl rfl rfl rfl) ?_
 refine w_ (p_fieldOw fa_166_0 rfl rfl) ?_
 refine w_ (p_fieldOw fa_44_1 rfl rfl) ?_
 refine w_ (p_indexArrOw 2 Tryz.runUnderlying42 Tryz.sizeOf3 rfl rfl rfl (by decide) rfl) ?_
 refine a_storeOw 3 Tryz.sizeOf3 rfl rfl rfl rfl rfl rfl rfl ?_
 refine aw_nil ?_
 refine ac_reg ?_
 refine w_ (p_add (r := ((3 : Nat) : Int)) rfl rfl (rfl) rfl) ?_
 refine w_ (p_move rfl rfl) ?_
 refine aw_nil ?_
 refine ac_round ?_
 refine ac_seq (ac_reg ?_)
 refine w_ (p_cmp (b := false) rfl rfl rfl rfl) ?_
 refine aw_nil ?_
 refine ac_seq ?_
 refine ac_f rfl (rfl) ?_
 refine ac_exit ?_
 repeat refine seqQ_exit ?_
 refine blkQ_here ?_
 refine ac_seq (ac_seq (ac_reg ?_))
 refine w_ (p_move rfl rfl) ?_
 refine aw_nil ?_
 refine ac_block (ac_seq (ac_reg ?_))
 refine w_ (p_cmp (b := false) rfl rfl rfl rfl) ?_
 refine w_ (p_assign rfl rfl) ?_
 refine aw_nil ?_
 refine ac_f rfl (rfl) ?_
 refine ac_seq (ac_reg ?_)
 refine w_ (p_cmp (b := false) rfl rfl rfl rfl) ?_
 refine w_ (p_assign rfl rfl) ?_
 refine aw_nil ?_
 refine ac_f rfl (rfl) ?_
 refine ac_seq (ac_reg ?_)
 refine w_ (p_cmp (b := true) rfl rfl rfl rfl) ?_
 refine w_ (p_assign rfl rfl) ?_
 refine aw_nil ?_
 refine ac_t rfl (rfl) ?_
 refine ac_draw mixed_ 12 [99, 100, 101, 102, 103, 104, 105, 106, 107, 108, 109, 110] [[], [0], [1], [2], [], [4], [5], [6], [], [8], [9], [10]] [.one (.row [[pl a.c.x, pl a.c.y, sg a.c.d, mg a.c.d, .int .i64 a.id], [pl b.c.x, pl b.c.y, sg b.c.d, mg b.c.d, .int .i64 b.id], [pl c.c.x, pl c.c.y, sg c.c.d, mg c.c.d, .int .i64 c.id]]), .one (.sh [pl a.c.x, pl a.c.y, sg a.c.d, mg a.c.d, .int .i64 a.id]), .one (.sh [pl a.c.x, pl a.c.y, sg a.c.d, mg a.c.d, .int .i64 a.id]), .agg [pl a.c.x, pl a.c.y, sg a.c.d, mg a.c.d], .one (.row [[pl a.c.x, pl a.c.y, sg a.c.d, mg a.c.d, .int .i64 a.id], [pl b.c.x, pl b.c.y, sg b.c.d, mg b.c.d, .int .i64 b.id], [pl c.c.x, pl c.c.y, sg c.c.d, mg c.c.d, .int .i64 c.id]]), .one (.sh [pl b.c.x, pl b.c.y, sg b.c.d, mg b.c.d, .int .i64 b.id]), .one (.sh [pl b.c.x, pl b.c.y, sg b.c.d, mg b.c.d, .int .i64 b.id]), .agg [pl b.c.x, pl b.c.y, sg b.c.d, mg b.c.d], .one (.row [[pl a.c.x, pl a.c.y, sg a.c.d, mg a.c.d, .int .i64 a.id], [pl b.c.x, pl b.c.y, sg b.c.d, mg b.c.d, .int .i64 b.id], [pl c.c.x, pl c.c.y, sg c.c.d, mg c.c.d, .int .i64 c.id]]), .one (.sh [pl c.c.x, pl c.c.y, sg c.c.d, mg c.c.d, .int .i64 c.id]), .one (.sh [pl c.c.x, pl c.c.y, sg c.c.d, mg c.c.d, .int .i64 c.id]), .agg [pl c.c.x, pl c.c.y, sg c.c.d, mg c.c.d]] rfl rfl rfl ⟨p_move rfl rfl, p_index (0) Tryz.runUnderlying22 Tryz.sizeOf76 rfl rfl rfl rfl rfl rfl, p_fieldSh fa_76_0 rfl rfl rfl, p_loadSh Tryz.isAgg74 Tryz.sizeOf74 rfl rfl rfl rfl, p_move rfl rfl, p_index (1) Tryz.runUnderlying22 Tryz.sizeOf76 rfl rfl rfl rfl rfl rfl, p_fieldSh fa_76_0 rfl rfl rfl, p_loadSh Tryz.isAgg74 Tryz.sizeOf74 rfl rfl rfl rfl, p_move rfl rfl, p_index (2) Tryz.runUnderlying22 Tryz.sizeOf76 rfl rfl rfl rfl rfl rfl, p_fieldSh fa_76_0 rfl rfl rfl, p_loadSh Tryz.isAgg74 Tryz.sizeOf74 rfl rfl rfl rfl, trivial⟩ rfl ?_
 refine w_ (p_call Tryz.func164 rfl rfl rfl rfl (d_pred_Orient (ha) (hb) (hc) (ca) (cb) (cc)) rfl) ?_
 refine w_ (p_fieldOw fa_166_1 rfl rfl) ?_
 refine a_storeOw 3 Tryz.sizeOf52 rfl rfl rfl rfl rfl rfl rfl ?_
 refine aw_nil ?_
 refine ac_seq (ac_reg ?_)
 refine w_ (p_fieldOw fa_166_1 rfl rfl) ?_
 refine w_ (p_loadOw 3 Tryz.isAgg52 Tryz.sizeOf52 rfl rfl rfl rfl rfl) ?_
 refine w_ (p_loadSh Tryz.isAgg59 Tryz.sizeOf59 rfl rfl rfl rfl) ?_
 refine w_ (p_call Tryz.func99 rfl rfl rfl rfl (d_germ_AtQ (pb_orient ha hb hc ca cb cc) (hq)) rfl) ?_
 refine w_ (p_fieldOw fa_166_2 rfl rfl) ?_
 refine a_storeOw 3 Tryz.sizeOf3 rfl rfl rfl rfl rfl rfl rfl ?_
 refine aw_nil ?_
 refine ac_seq (ac_reg ?_)
 refine w_ (p_loadOw 3 Tryz.isAgg166 Tryz.sizeOf166 rfl rfl rfl rfl rfl) ?_
 refine a_storeOw 4 Tryz.sizeOf166 rfl rfl rfl rfl rfl rfl rfl ?_
 refine w_ (p_assign rfl rfl) ?_
 refine aw_nil ?_
 refine ac_ret ?_
 exact retB_2 Tryz.results201 (rv_cell 4 Tryz.isAgg166 Tryz.sizeOf166 rfl rfl rfl rfl rfl) (rv_tmp rfl rfl) (by simp only [mkOrient])
end Orr

namespace Orr
open Go
def keyV (ks : List Int) : Value := .agg (ks.map (Value.int .i64)).toArray
def getM : List (List Int × LV) → List Int → Option LV
  | [], _ => none
  | e :: es, k => if k = e.1 then some e.2 else getM es k
def putM : List (List Int × LV) → List Int → LV → List (List Int × LV)
  | [], k, x => [(k, x)]
  | e :: es, k, x => if k = e.1 then (k, x) :: es else e :: putM es k x
theorem putM_len {n : Nat} : ∀ {es : List (List Int × LV)} {k : List Int} {x : LV}, (∀ e ∈ es, e.1.length = n) → k.length = n → ∀ e ∈ putM es k x, e.1.length = n
  | [], k, x, _, hk, e, he => by simp [putM] at he; subst he; exact hk
  | y :: es, k, x, h, hk, e, he => by
    simp only [putM] at he
    split at he
    · rcases List.mem_cons.1 he with rfl | he
      · exact hk
      · exact h e (List.mem_cons_of_mem _ he)
    · rcases List.mem_cons.1 he with rfl | he
      · exact h _ (List.mem_cons_self ..)
      · exact putM_len (fun z hz => h z (List.mem_cons_of_mem _ hz)) hk e he
def isLit : LV → Bool
  | .int _ _ => true
  | .bool _ => true
  | _ => false
theorem lrep_lit {w : World} {O : Nat → Prop} {x : LV} (h : isLit x = true) : LRep w O (litV x) x := by
  cases x <;> first | exact .int _ _ | exact .bool _ | cases h
theorem lit_of {w : World} {O : Nat → Prop} {x : LV} {v : Value} (h : isLit x = true) (hr : XRep w O v x) : v = litV x := by
  cases x <;> first | cases h | skip
  · have hr : LRep w O v (.int _ _) := hr; cases hr; rfl
  · have hr : LRep w O v (.bool _) := hr; cases hr; rfl
structure MapT (P : Program) (T KT ET : Nat) (d : LV) : Prop where
  u : ∀ w, (underlying T).run P w = .ok (.map KT ET) w
  k : ∃ ds, (∀ w, (underlying KT).run P w = .ok ds w) ∧ ∀ x y, Instr.sameNow ds x y = none
  c : ∀ (em : Bool) (ks : List Int), ks.length = 3 → ∀ w, (Instr.checkKey em 10000 KT (keyV ks)).run P w = .ok () w
  e : ∀ (x y : List Int), x.length = 3 → y.length = 3 → ∀ w, (Op.equal KT (keyV x) (keyV y)).run P w = .ok (decide (x = y)) w
  z : ∀ w, (zeroValue ET).run P w = .ok (litV d) w
  d : isLit d = true
section
variable {P : Program} {K Ob : Nat → Prop} {w0 w : World} {a : Act} {n : Nat} {L : List (Nat × Value)} {Fs : List Fact} {Bs : List Blk} {T KT ET : Nat} {d : LV}
theorem set_fst {i : Nat} {g : Nat} {T T' : Tag} {cs cs' : List Value} (hi : Bs[i]? = some (g, T, cs)) : (Bs.set i (g, T', cs')).map (·.1) = Bs.map (·.1) := by
  rw [List.map_set]
  apply List.ext_getElem?
  intro k
  rw [List.getElem?_set]
  split
  · rename_i e; subst e
    split
    · rw [List.getElem?_map, hi]; rfl
    · rename_i hx
      have := (List.getElem?_eq_some_iff.1 hi).1
      simp at hx; omega
  · rfl
theorem St.setMap {g i : Nat} {es es' : List MapEntry} {ck ck' : Nat} (h : St K Ob w0 w a n L Fs Bs) (hi : Bs[i]? = some (g, Tag.mp es ck, [])) :
    St K Ob w0 { w with heap := w.heap.setIfInBounds g (.map es'.toArray ck') } a n L Fs (Bs.set i (g, Tag.mp es' ck', [])) := by
  have hm := List.mem_of_getElem? hi
  obtain ⟨hg1, hg2, hg3⟩ := h.own g _ _ hm
  have hmap := set_fst (T' := Tag.mp es' ck') (cs' := []) hi
  have hold : ∀ b, b ≠ g → (w.heap.setIfInBounds g (.map es'.toArray ck'))[b]? = w.heap[b]? := fun b hb => by
    rw [Array.getElem?_setIfInBounds]
    rw [if_neg (fun e => hb e.symm)]
  refine { h with wsize := by show _ ≤ (w.heap.setIfInBounds _ _).size; simp only [Array.size_setIfInBounds]; exact h.wsize, grow := ?_, own := ?_, nodup := by rw [hmap]; exact h.nodup, facts := ?_, ownO := by rw [hmap]; exact h.ownO }
  · intro b hb
    exact (hold b (fun e => by subst e; exact hg1 hb)).trans (h.grow b hb)
  · intro g' T' cs' hm'
    show _ ∧ g' < (w.heap.setIfInBounds _ _).size ∧ (w.heap.setIfInBounds _ _)[g']? = _
    simp only [Array.size_setIfInBounds]
    obtain ⟨k, hk⟩ := List.mem_iff_getElem?.1 hm'
    rw [List.getElem?_set] at hk
    split at hk
    · split at hk
      · injection hk with hk
        injection hk with e1 e2; injection e2 with e2 e3
        subst e1; subst e2; subst e3
        refine ⟨hg1, hg2, ?_⟩
        rw [Array.getElem?_setIfInBounds, if_pos rfl, if_pos hg2]; rfl
      · cases hk
    · rename_i hik
      have hm2 := List.mem_of_getElem? hk
      obtain ⟨h1, h2, h3⟩ := h.own g' T' cs' hm2
      refine ⟨h1, h2, (hold g' fun e => ?_).trans h3⟩
      subst e
      have hk' : (Bs.map (·.1))[k]? = some g' := by rw [List.getElem?_map, hk]; rfl
      have hi' : (Bs.map (·.1))[i]? = some g' := by rw [List.getElem?_map, hi]; rfl
      exact hik ((List.getElem?_inj (by rw [List.length_map]; exact (List.getElem?_eq_some_iff.1 hi).1) h.nodup).1 (hi'.trans hk'.symm))
  · intro f hf
    refine f.keep ⟨by show _ ≤ (w.heap.setIfInBounds _ _).size; simp, fun b hb hno => hold b fun e => ?_, fun b hb ho => ?_⟩ (h.facts f hf)
    · subst e; exact hno (.inr (List.mem_map.2 ⟨_, hm, rfl⟩))
    · unfold owns at ho ⊢; rw [hmap] at ho; exact ho
def posM : List (List Int × LV) → List Int → Option Nat
  | [], _ => none
  | e :: es, k => if k = e.1 then some 0 else (posM es k).map (· + 1)
theorem run_findAsking (M : MapT P T KT ET d) {k : List Int} (hk : k.length = 3) : ∀ (ents : List MapEntry) (es : List (List Int × LV)) (i : Nat) (w : World), (∀ e ∈ es, e.1.length = 3) → ents.map (fun e => (e.key, e.val)) = entsOf es →
    (Instr.findAsking KT (keyV k) ents i).run P w = .ok ((posM es k).map fun j => (i + j, litV ((getM es k).getD d))) w
  | [], [], i, w, _, _ => rfl
  | [], _ :: _, i, w, _, h => by simp [entsOf] at h
  | _ :: _, [], i, w, _, h => by simp [entsOf] at h
  | x :: ents, e :: es, i, w, hl, h => by
    simp only [entsOf, List.map_cons, List.cons.injEq, Prod.mk.injEq] at h
    obtain ⟨⟨h1, h2⟩, h3⟩ := h
    have ih := run_findAsking M hk ents es (i + 1) w (fun z hz => hl z (List.mem_cons_of_mem _ hz)) h3
    have heq := M.e k e.1 hk (hl e (List.mem_cons_self ..)) w
    have hx : x.key = keyV e.1 := h1
    simp only [Instr.findAsking]
    rw [Sem.run_bind, hx, heq]
    simp only [Result.andThen_ok, posM, getM]
    by_cases hke : k = e.1
    · simp [hke, h2]
    · simp only [hke, decide_false, Bool.false_eq_true, if_false]
      rw [ih]
      cases posM es k with
      | none => rfl
      | some j => simp; omega
theorem run_findKey (M : MapT P T KT ET d) {k : List Int} (hk : k.length = 3) (ents : List MapEntry) (es : List (List Int × LV)) (w : World) (hl : ∀ e ∈ es, e.1.length = 3) (h : ents.map (fun e => (e.key, e.val)) = entsOf es) :
    (Instr.findKey KT (keyV k) ents).run P w = .ok ((posM es k).map fun j => (j, litV ((getM es k).getD d))) w := by
  obtain ⟨ds, hd, hs⟩ := M.k
  unfold Instr.findKey
  rw [Sem.run_bind, hd]
  simp only [Result.andThen_ok]
  cases ents with
  | nil =>
    cases es with
    | nil => rfl
    | cons e es => simp [entsOf] at h
  | cons x ents =>
    simp only [Instr.findNow, hs]
    have := run_findAsking M hk (x :: ents) es 0 w hl h
    rw [this]
    cases posM es k <;> simp
theorem posM_none : ∀ {es : List (List Int × LV)} {k : List Int}, posM es k = none → getM es k = none ∧ ∀ x, putM es k x = es ++ [(k, x)]
  | [], _, _ => ⟨rfl, fun _ => rfl⟩
  | e :: es, k, h => by
    simp only [posM] at h
    split at h
    · cases h
    · rename_i hk
      have ih := posM_none (es := es) (k := k) (by cases hp : posM es k with | none => rfl | some j => rw [hp] at h; cases h)
      refine ⟨by simp only [getM, if_neg hk]; exact ih.1, fun x => by simp only [putM, if_neg hk, ih.2 x, List.cons_append]⟩
theorem posM_some : ∀ {es : List (List Int × LV)} {k : List Int} {j : Nat}, posM es k = some j → ∃ x, es[j]? = some (k, x) ∧ getM es k = some x ∧ ∀ y, putM es k y = es.set j (k, y)
  | [], _, _, h => by cases h
  | e :: es, k, j, h => by
    simp only [posM] at h
    split at h
    · rename_i hk
      injection h with h; subst h
      exact ⟨e.2, by simp [hk], by simp [getM, hk], fun y => by simp [putM, hk]⟩
    · rename_i hk
      cases hp : posM es k with
      | none => rw [hp] at h; cases h
      | some i =>
        rw [hp] at h
        injection h with h; subst h
        obtain ⟨x, h1, h2, h3⟩ := posM_some hp
        exact ⟨x, by simpa using h1, by simp only [getM, if_neg hk]; exact h2, fun y => by simp only [putM, if_neg hk, h3 y, List.set_cons_succ]⟩
theorem run_lookup (M : MapT P T KT ET d) {k : List Int} (hk : k.length = 3) {g ck : Nat} {ents : List MapEntry} {es : List (List Int × LV)} (hl : ∀ e ∈ es, e.1.length = 3) (h : ents.map (fun e => (e.key, e.val)) = entsOf es) (hg : w.heap[g]? = some (.map ents.toArray ck)) :
    (Instr.lookup T (.map (some g)) (keyV k) false).run P w = .ok (litV ((getM es k).getD d)) w := by
  have hf := run_findKey M hk ents es w hl h
  have hc := fun em => M.c em k hk w
  unfold Instr.lookup
  simp only [Sem.run_bind, M.u, Result.andThen_ok, MapKept.run_getObj_map hg, Sem.run_pure, hc, hf]
  cases hp : posM es k with
  | none => simp [M.z, (posM_none hp).1]
  | some j => simp
theorem same_key {k : List Int} (hk : k.length = 3) : Instr.sameBits 10000 (keyV k) (keyV k) = true := by
  match k, hk with
  | [a, b, c], _ => simp [keyV, Instr.sameBits]
theorem run_update (M : MapT P T KT ET d) {k : List Int} (hk : k.length = 3) {g ck : Nat} {ents : List MapEntry} {es : List (List Int × LV)} (hl : ∀ e ∈ es, e.1.length = 3) (h : ents.map (fun e => (e.key, e.val)) = entsOf es) (hg : w.heap[g]? = some (.map ents.toArray ck)) (x : LV) :
    ∃ (ents' : List MapEntry) (ck' : Nat), (Instr.mapUpdate T (.map (some g)) (keyV k) (litV x)).run P w = .ok () { w with heap := w.heap.setIfInBounds g (.map ents'.toArray ck') } ∧ ents'.map (fun e => (e.key, e.val)) = entsOf (putM es k x) := by
  have hf := run_findKey M hk ents es w hl h
  have hc := fun em => M.c em k hk w
  have hlen : ents.length = es.length := by have := congrArg List.length h; simpa [entsOf] using this
  cases hp : posM es k with
  | none =>
    rw [hp] at hf
    refine ⟨ents ++ [{ key := keyV k, val := litV x, born := ck }], ck + 1, ?_, ?_⟩
    · unfold Instr.mapUpdate
      simp only [Sem.run_bind, M.u, Result.andThen_ok, MapKept.run_getObj_map hg, Sem.run_pure, hc, hf, Option.map_none]
      rw [MapKept.run_setObj_map _ hg]
      simp
    · rw [(posM_none hp).2 x, List.map_append, h]
      simp [entsOf, keyV]
  | some j =>
    rw [hp] at hf
    obtain ⟨y, h1, h2, h3⟩ := posM_some hp
    have hjl : j < ents.length := by rw [hlen]; exact (List.getElem?_eq_some_iff.1 h1).1
    have hkey : (ents[j]'hjl).key = keyV k := by
      have := congrArg (·[j]?) h
      simp only [entsOf, List.getElem?_map, h1, List.getElem?_eq_getElem hjl, Option.map_some, Option.some.injEq, Prod.mk.injEq] at this
      exact this.1
    refine ⟨ents.set j { ents[j]'hjl with key := keyV k, val := litV x }, ck, ?_, ?_⟩
    · unfold Instr.mapUpdate
      simp only [Sem.run_bind, M.u, Result.andThen_ok, MapKept.run_getObj_map hg, Sem.run_pure, hc, hf, Option.map_some]
      have hks : (Instr.keyThatStays (((ents.toArray[j]?).map (·.key)).getD (keyV k)) (keyV k)).run P w = .ok (keyV k) w := by
        rw [List.getElem?_toArray, List.getElem?_eq_getElem hjl]
        simp only [Option.map_some, Option.getD_some, hkey]
        unfold Instr.keyThatStays
        rw [if_pos (same_key hk)]; rfl
      rw [hks]
      simp only [Result.andThen_ok]
      rw [MapKept.run_setObj_map _ hg]
      have e : ents.toArray.modify j (fun e => { e with key := keyV k, val := litV x }) = (ents.set j { ents[j]'hjl with key := keyV k, val := litV x }).toArray := by
        apply Array.ext_getElem?
        intro i
        rw [Array.getElem?_modify]
        simp only [List.getElem?_toArray, List.getElem?_set]
        by_cases hij : j = i
        · subst hij
          simp [hjl]
        · simp [hij]
      rw [e]
    · rw [h3 x, List.map_set, h]
      unfold entsOf
      rw [List.map_set]
      rfl
end
variable {P : Program} {ops : Array Oper} {n d : Nat} {rest : List Oper} {N : Sg → List OB → Prop} {L : Sg} {B : List OB} {ty : TypeId} {pos : String} {after : Array Edge}
theorem rep_key {w : World} {O : Nat → Prop} : ∀ {ks : List Int} {vs : List Value}, XReps w O vs (ks.map (LV.int .i64)) → vs = ks.map (Value.int .i64)
  | [], [], _ => rfl
  | k :: ks, v :: vs, h => by
    have h1 : LRep w O v (.int .i64 k) := h.1
    cases h1
    rw [rep_key h.2]; rfl
  | [], _ :: _, h => h.elim
  | _ :: _, [], h => h.elim
theorem p_lookup (i : Nat) {T KT ET g : Nat} {x y : Operand} {es : List (List Int × LV)} {ks : List Int} {dv r : LV} {B' : List OB} (M : MapT P T KT ET dv) (hi : frontB B i = some (.mpb g es, B')) (hx : evA L x = some (.one (.omap g))) (hy : evA L y = some (.agg (ks.map (LV.int .i64)))) (hk : Nat.beq ks.length 3 = true) (hr : (getM es ks).getD dv = r) (hlit : isLit r = true) (hd : Nat.blt d n = true) :
    AP P ops n { dst := some d, op := .lookup T x y false, type := ty, pos := pos, after := after, guard := none } d (.one r) L B := by
  refine p_val hd fun K Ob w0 w a Bs L' Fs h hL hB => ?_
  have hk := Nat.eq_of_beq_eq_true hk
  obtain ⟨hxi, rfl⟩ := frontB_eq hi
  obtain ⟨Bo, Bs', hp, ⟨hl, ents, ck, rfl, he⟩, _⟩ := hB.front hxi
  obtain ⟨v, hv, hr1⟩ := ev_of hL hx
  obtain rfl : v = .map (some g) := hr1
  obtain ⟨v2, hv2, hr2⟩ := ev_of hL hy
  obtain ⟨vs, rfl, hvs⟩ : ∃ vs : List Value, v2 = .agg vs.toArray ∧ XReps w (owns Ob Bs) vs (ks.map (LV.int .i64)) := hr2
  have hkv := rep_key hvs
  subst hkv
  have hg := (h.own g (Tag.mp ents ck) [] (hp.mem_iff.2 (List.mem_append.2 (.inl (List.mem_singleton.2 rfl))))).2.2
  refine ⟨litV r, ?_, (lrep_lit hlit).x⟩
  have := run_lookup M hk hl he hg
  rw [hr] at this
  simp only [execOp, h.ev hv, h.ev hv2]
  rw [show (Value.agg (ks.map (Value.int .i64)).toArray) = keyV ks from rfl]
  simp [this]
theorem a_mapUpdate (i : Nat) {T KT ET g : Nat} {x y z : Operand} {es : List (List Int × LV)} {ks : List Int} {dv v : LV} {B' : List OB} (M : MapT P T KT ET dv) (hi : frontB B i = some (.mpb g es, B')) (hx : evA L x = some (.one (.omap g))) (hy : evA L y = some (.agg (ks.map (LV.int .i64)))) (hz : evA L z = some (.one v)) (hlit : isLit v = true) (hk : Nat.beq ks.length 3 = true)
    (k : AW P ops n rest N L (.mpb g (putM es ks v) :: B')) :
    AW P ops n ({ dst := none, op := .mapUpdate T x y z, type := ty, pos := pos, after := after, guard := none } :: rest) N L B := by
  intro K Ob w0 w a Q hs0 hQ
  have hk := Nat.eq_of_beq_eq_true hk
  obtain ⟨L', Bo, Bs, h, hL, ⟨hl, ents, ck, rfl, he⟩, hB⟩ := hs0.front hi
  obtain ⟨v1, hv1, hr1⟩ := ev_of hL hx
  obtain rfl : v1 = .map (some g) := hr1
  obtain ⟨v2, hv2, hr2⟩ := ev_of hL hy
  obtain ⟨vs, rfl, hvs⟩ : ∃ vs : List Value, v2 = .agg vs.toArray ∧ XReps w (owns Ob _) vs (ks.map (LV.int .i64)) := hr2
  have hkv := rep_key hvs
  subst hkv
  obtain ⟨v3, hv3, hr3⟩ := ev_of hL hz
  have hv3e := lit_of hlit hr3
  subst hv3e
  have hg := (h.own g (Tag.mp ents ck) [] (List.mem_cons_self ..)).2.2
  obtain ⟨ents', ck', hrun, he'⟩ := run_update M hk hl he hg v
  have h2 := h.add (f := ⟨fun w O => (∀ t x, lk L t = some x → ∃ v, look L' t = some v ∧ ARep w O v x) ∧ BsRep w O B' Bs, fun hle h => ⟨keep_of hle h.1, h.2.keep hle⟩⟩) ⟨hL, hB⟩
  have h3 := h2.setMap (i := 0) (es' := ents') (ck' := ck') rfl
  refine step_skip (w' := { w with heap := w.heap.setIfInBounds g (.map ents'.toArray ck') }) rfl rfl ?_ ?_
  · simp only [execOp, h.ev hv1, h.ev hv2, h.ev hv3]
    rw [show (Value.agg (ks.map (Value.int .i64)).toArray) = keyV ks from rfl]
    simp [hrun]
  · obtain ⟨h4, h5⟩ := h3.fact 0 rfl
    exact k _ _ _ _ _ _ ⟨L', _, h3.noFacts, h4, ⟨[_], Bs, rfl, ⟨putM_len hl hk, ents', ck', rfl, he'⟩, h5⟩⟩ hQ
theorem a_makeMap {T : Nat} (hd : Nat.blt d n = true) (k : ∀ g, AW P ops n rest N ((d, .one (.omap g)) :: L) (.mpb g [] :: B)) :
    AW P ops n ({ dst := some d, op := .makeMap T none, type := ty, pos := pos, after := after, guard := none } :: rest) N L B := by
  rintro K Ob w0 w a Q ⟨L', Bs, h, hL, hB⟩ hQ
  have h2 := h.add (f := ⟨fun w O => (∀ t x, lk L t = some x → ∃ v, look L' t = some v ∧ ARep w O v x) ∧ BsRep w O B Bs, fun hle h => ⟨keep_of hle h.1, h.2.keep hle⟩⟩) ⟨hL, hB⟩
  have h3 := (h2.allocT (Tag.mp [] 0) []).put (.map (some w.heap.size)) hd
  obtain ⟨h4, h5⟩ := h3.fact 0 rfl
  refine step_value (w' := w.alloc (objOf (Tag.mp [] 0) [])) (v := .map (some w.heap.size)) rfl (by simp [execOp, Instr.makeMap, run_newObj, objOf]) ?_
  exact k w.heap.size _ _ _ _ _ _ ⟨_, _, h3.noFacts, put_of h4 rfl, ⟨[_], Bs, rfl, ⟨by simp, [], 0, rfl, rfl⟩, h5⟩⟩ hQ
end Orr

namespace Orr
def orow4 (a : Crv) : List (List Int) := [pscale a.x a.d, pscale a.y a.d, padd (pmul a.x a.x) (pmul a.y a.y), [a.d * a.d]]
def pcircle (a b c d : Crv) : List Int := det 4 [orow4 a, orow4 b, orow4 c, orow4 d]
abbrev cols4 : List (Nat × Nat) := [(16, 2097152), (16, 2097152), (31, 2097158), (1, 2097152)]
theorem cols4_ok : ColsOk cols4 := by
  intro c hc
  simp only [List.mem_cons, List.not_mem_nil, or_false] at hc
  rcases hc with rfl | rfl | rfl | rfl <;> decide
theorem sq_b {p : List Int} (h : p.length ≤ 16) (hb : Bd 1048576 p) : (pmul p p).length ≤ 31 ∧ Bd 2097157 (pmul p p) := by
  have := len_pmul p p
  exact ⟨by omega, bd_mono (bd_pmul (u := 5) hb hb (by omega)) (by omega)⟩
theorem orow4_b {a : Crv} (h : Nml a) (c : Cb a) : RowB cols4 (orow4 a) := by
  have h1 := len_pscale a.x a.d
  have h2 := len_pscale a.y a.d
  have s1 := sq_b c.lx c.x
  have s2 := sq_b c.ly c.y
  have h3 := len_padd (pmul a.x a.x) (pmul a.y a.y)
  have := c.lx; have := c.ly
  refine ⟨⟨each_trim _ _, by omega, bd_mono (bd_pscale c.x c.d) (by omega)⟩, ⟨each_trim _ _, by omega, bd_mono (bd_pscale c.y c.d) (by omega)⟩, ⟨each_trim _ _, by omega, bd_mono (bd_padd s1.2 s2.2) (by omega)⟩, ⟨trim_one ?_, Nat.le_refl _, ?_⟩, trivial⟩
  · have := h.2.2.1
    intro e
    rcases Int.mul_eq_zero.1 e with e | e <;> omega
  · intro z hz
    rw [List.mem_singleton.1 hz]
    have := isz_mul a.d a.d; have := c.d; omega
theorem orows4 {a b c d : Crv} (ha : Nml a) (hb : Nml b) (hc : Nml c) (hd : Nml d) (ca : Cb a) (cb : Cb b) (cc : Cb c) (cd : Cb d) : ∀ r ∈ [orow4 a, orow4 b, orow4 c, orow4 d], RowB cols4 r := by
  intro r hr
  simp only [List.mem_cons, List.not_mem_nil, or_false] at hr
  rcases hr with rfl | rfl | rfl | rfl
  · exact orow4_b ha ca
  · exact orow4_b hb cb
  · exact orow4_b hc cc
  · exact orow4_b hd cd
theorem pb_circle {a b c d : Crv} (ha : Nml a) (hb : Nml b) (hc : Nml c) (hd : Nml d) (ca : Cb a) (cb : Cb b) (cc : Cb c) (cd : Cb d) : Pb (pcircle a b c d) := by
  obtain ⟨h1, h2, h3⟩ := det_b 4 cols4 [orow4 a, orow4 b, orow4 c, orow4 d] rfl rfl (by decide) cols4_ok (orows4 ha hb hc hd ca cb cc cd)
  have h2 : (pcircle a b c d).length + 4 ≤ 64 + 1 := h2
  exact ⟨h1, by omega, bd_mono h3 (by decide)⟩
def mkCircle (q : Rat) (a b c d : Pt) : Ct := ⟨4, a.id, b.id, c.id, d.id, pcircle a.c b.c c.c d.c, germAt (pcircle a.c b.c c.c d.c) q⟩
abbrev P3 := Pt × (Pt × Pt)
abbrev P4 := Pt × P3
def triK : Nat → List Pt → List P3
  | 0, _ => []
  | _ + 1, [] => []
  | k + 1, x :: l => (pairsOf l).map (fun m => (x, m)) ++ triK k l
def triples (l : List Pt) : List P3 := triK l.length l
def quaK : Nat → List Pt → List P4
  | 0, _ => []
  | _ + 1, [] => []
  | k + 1, x :: l => (triples l).map (fun m => (x, m)) ++ quaK k l
def quads (l : List Pt) : List P4 := quaK l.length l
theorem triK_next : ∀ (l : List Pt) (i : Nat) (x : Pt), l[i]? = some x → triK (i + 1) l = triK i l ++ (pairsOf (l.drop (i + 1))).map (fun m => (x, m))
  | [], i, x, h => by simp at h
  | y :: l, 0, x, h => by simp at h; subst h; simp [triK]
  | y :: l, i + 1, x, h => by
    have ih := triK_next l i x (by simpa using h)
    show (pairsOf l).map _ ++ triK (i + 1) l = ((pairsOf l).map _ ++ triK i l) ++ _
    rw [ih, List.append_assoc]; rfl
theorem quaK_next : ∀ (l : List Pt) (i : Nat) (x : Pt), l[i]? = some x → quaK (i + 1) l = quaK i l ++ (triples (l.drop (i + 1))).map (fun m => (x, m))
  | [], i, x, h => by simp at h
  | y :: l, 0, x, h => by simp at h; subst h; simp [quaK]
  | y :: l, i + 1, x, h => by
    have ih := quaK_next l i x (by simpa using h)
    show (triples l).map _ ++ quaK (i + 1) l = ((triples l).map _ ++ quaK i l) ++ _
    rw [ih, List.append_assoc]; rfl
theorem triK_len : ∀ (k : Nat) (l : List Pt), k ≤ l.length → (triK k l).length ≤ k * (l.length * l.length)
  | 0, l, _ => by simp [triK]
  | k + 1, [], h => by simp at h
  | k + 1, x :: l, h => by
    have h1 := triK_len k l (by simpa using h)
    have h2 : (pairsOf l).length ≤ l.length * l.length := pairsK_len _ _
    simp only [triK, List.length_append, List.length_map, List.length_cons]
    have e : (l.length + 1) * (l.length + 1) = l.length * l.length + l.length + l.length + 1 := by rw [Nat.add_mul, Nat.mul_add]; omega
    have h3 : k * (l.length * l.length) ≤ k * ((l.length + 1) * (l.length + 1)) := Nat.mul_le_mul_left _ (by omega)
    rw [Nat.succ_mul]
    omega
theorem quaK_len : ∀ (k : Nat) (l : List Pt), k ≤ l.length → (quaK k l).length ≤ k * (l.length * (l.length * l.length))
  | 0, l, _ => by simp [quaK]
  | k + 1, [], h => by simp at h
  | k + 1, x :: l, h => by
    have h1 := quaK_len k l (by simpa using h)
    have h2 : (triples l).length ≤ l.length * (l.length * l.length) := triK_len _ _ (Nat.le_refl _)
    simp only [quaK, List.length_append, List.length_map, List.length_cons]
    have e : (l.length + 1) * ((l.length + 1) * (l.length + 1)) ≥ l.length * (l.length * l.length) := Nat.mul_le_mul (by omega) (Nat.mul_le_mul (by omega) (by omega))
    have h3 : k * (l.length * (l.length * l.length)) ≤ k * ((l.length + 1) * ((l.length + 1) * (l.length + 1))) := Nat.mul_le_mul_left _ e
    rw [Nat.succ_mul]
    omega
theorem triK_mem : ∀ (k : Nat) (l : List Pt), ∀ m ∈ triK k l, m.1 ∈ l ∧ m.2.1 ∈ l ∧ m.2.2 ∈ l
  | 0, l, m, h => by simp [triK] at h
  | k + 1, [], m, h => by simp [triK] at h
  | k + 1, x :: l, m, h => by
    rcases List.mem_append.1 h with h | h
    · obtain ⟨y, hy, rfl⟩ := List.mem_map.1 h
      obtain ⟨h1, h2⟩ := pairsK_mem _ _ y hy
      exact ⟨List.mem_cons_self .., List.mem_cons_of_mem _ h1, List.mem_cons_of_mem _ h2⟩
    · obtain ⟨h1, h2, h3⟩ := triK_mem k l m h
      exact ⟨List.mem_cons_of_mem _ h1, List.mem_cons_of_mem _ h2, List.mem_cons_of_mem _ h3⟩
theorem quaK_mem : ∀ (k : Nat) (l : List Pt), ∀ m ∈ quaK k l, m.1 ∈ l ∧ m.2.1 ∈ l ∧ m.2.2.1 ∈ l ∧ m.2.2.2 ∈ l
  | 0, l, m, h => by simp [quaK] at h
  | k + 1, [], m, h => by simp [quaK] at h
  | k + 1, x :: l, m, h => by
    rcases List.mem_append.1 h with h | h
    · obtain ⟨y, hy, rfl⟩ := List.mem_map.1 h
      obtain ⟨h1, h2, h3⟩ := triK_mem _ _ y hy
      exact ⟨List.mem_cons_self .., List.mem_cons_of_mem _ h1, List.mem_cons_of_mem _ h2, List.mem_cons_of_mem _ h3⟩
    · obtain ⟨h1, h2, h3, h4⟩ := quaK_mem k l m h
      exact ⟨List.mem_cons_of_mem _ h1, List.mem_cons_of_mem _ h2, List.mem_cons_of_mem _ h3, List.mem_cons_of_mem _ h4⟩
abbrev Ents := List (List Int × LV)
def oriC (q : Rat) (m : P3) : Ct := mkOrient q m.1 m.2.1 m.2.2
def cirC (q : Rat) (m : P4) : Ct := mkCircle q m.1 m.2.1 m.2.2.1 m.2.2.2
def key3 (m : P3) : List Int := [m.1.id, m.2.1.id, m.2.2.id]
def turnM (q : Rat) (ps : List P3) : Ents := ps.foldl (fun M m => putM M (key3 m) (.int .i64 (oriC q m).want)) []
theorem turnM_snoc (q : Rat) (ps : List P3) (m : P3) : turnM q (ps ++ [m]) = putM (turnM q ps) (key3 m) (.int .i64 (oriC q m).want) := by simp [turnM]
def intM (M : Ents) (k : List Int) : Int := match getM M k with
  | some (.int _ n) => n
  | _ => 0
def boolM (M : Ents) (k : List Int) : Bool := match getM M k with
  | some (.bool b) => b
  | _ => false
def fillS (T : Ents) (s : Int) (n : List Int) (F : Ents) (skip : Nat) : Ents := if intM T (n.eraseIdx skip) * (if (3 - skip) % 2 = 1 then -s else s) > 0 then putM F (n.eraseIdx skip) (.bool true) else F
def fillM (T : Ents) (s : Int) (n : List Int) (F : Ents) : Ents := fillS T s n (fillS T s n (fillS T s n (fillS T s n F 0) 1) 2) 3
def key4 (m : P4) : List Int := [m.1.id, m.2.1.id, m.2.2.1.id, m.2.2.2.id]
def fullM (q : Rat) (T : Ents) (ps : List P4) : Ents := ps.foldl (fun F m => fillM T (cirC q m).want (key4 m) F) []
theorem fullM_snoc (q : Rat) (T : Ents) (ps : List P4) (m : P4) : fullM q T (ps ++ [m]) = fillM T (cirC q m).want (key4 m) (fullM q T ps) := by simp [fullM]
def isT (T F : Ents) (m : P3) : Bool := decide (intM T (key3 m) ≠ 0) && !(boolM F (key3 m))
def meshC (q : Rat) (l : List Pt) : List Ct := (triples (ways l)).map (oriC q) ++ (quads (ways l)).map (cirC q)
def meshT (q : Rat) (l : List Pt) : List P3 := (triples (ways l)).filter (isT (turnM q (triples (ways l))) (fullM q (turnM q (triples (ways l))) (quads (ways l))))
abbrev trL (m : P3) : List LV := [.int .i64 m.1.id, .int .i64 m.2.1.id, .int .i64 m.2.2.id]
def tris (l : List P3) : LV := .row (l.map trL)
theorem rlen_tris (l : List P3) : rlen (tris l) = some l.length := by simp [rlen, tris]
theorem meshT_len (q : Rat) (l : List Pt) (h : l.length ≤ 10) : (meshT q l).length ≤ 1000 := by
  have hw := ways_len l
  have h1 := List.length_filter_le (isT (turnM q (triples (ways l))) (fullM q (turnM q (triples (ways l))) (quads (ways l)))) (triples (ways l))
  have h2 : (triples (ways l)).length ≤ (ways l).length * ((ways l).length * (ways l).length) := triK_len _ _ (Nat.le_refl _)
  have h3 : (ways l).length * ((ways l).length * (ways l).length) ≤ 10 * (10 * 10) := Nat.mul_le_mul (by omega) (Nat.mul_le_mul (by omega) (by omega))
  unfold meshT
  omega
theorem meshC_le (q : Rat) (l : List Pt) (h : l.length ≤ 10) : (meshC q l).length ≤ 100000 := by
  have hw := ways_len l
  have h2 : (triples (ways l)).length ≤ (ways l).length * ((ways l).length * (ways l).length) := triK_len _ _ (Nat.le_refl _)
  have h3 : (ways l).length * ((ways l).length * (ways l).length) ≤ 10 * (10 * 10) := Nat.mul_le_mul (by omega) (Nat.mul_le_mul (by omega) (by omega))
  have h4 : (quads (ways l)).length ≤ (ways l).length * ((ways l).length * ((ways l).length * (ways l).length)) := quaK_len _ _ (Nat.le_refl _)
  have h5 : (ways l).length * ((ways l).length * ((ways l).length * (ways l).length)) ≤ 10 * (10 * (10 * 10)) := Nat.mul_le_mul (by omega) (Nat.mul_le_mul (by omega) (Nat.mul_le_mul (by omega) (by omega)))
  unfold meshC
  rw [List.length_append, List.length_map, List.length_map]
  omega
theorem meshC_pb (q : Rat) {l : List Pt} (hl : ∀ a ∈ l, Nml a.c ∧ Cb a.c) : ∀ c ∈ meshC q l, Pb c.p := by
  intro c h
  unfold meshC at h
  rcases List.mem_append.1 h with h | h
  · obtain ⟨m, hm, rfl⟩ := List.mem_map.1 h
    obtain ⟨h1, h2, h3⟩ := triK_mem _ _ m hm
    have h1 := hl _ (ways_mem h1); have h2 := hl _ (ways_mem h2); have h3 := hl _ (ways_mem h3)
    unfold oriC
    rw [mkOrient]
    exact pb_orient h1.1 h2.1 h3.1 h1.2 h2.2 h3.2
  · obtain ⟨m, hm, rfl⟩ := List.mem_map.1 h
    obtain ⟨h1, h2, h3, h4⟩ := quaK_mem _ _ m hm
    have h1 := hl _ (ways_mem h1); have h2 := hl _ (ways_mem h2); have h3 := hl _ (ways_mem h3); have h4 := hl _ (ways_mem h4)
    unfold cirC
    rw [mkCircle]
    exact pb_circle h1.1 h2.1 h3.1 h4.1 h1.2 h2.2 h3.2 h4.2
def IntM (M : Ents) : Prop := ∀ k, (getM M k).getD (.int .i64 0) = .int .i64 (intM M k) ∧ -1 ≤ intM M k ∧ intM M k ≤ 1
def BoolM (M : Ents) : Prop := ∀ k, (getM M k).getD (.bool false) = .bool (boolM M k)
theorem getM_putM (M : Ents) (k : List Int) (x : LV) (k' : List Int) : getM (putM M k x) k' = if k' = k then some x else getM M k' := by
  induction M with
  | nil => simp [putM, getM]
  | cons e M ih =>
    simp only [putM]
    by_cases h : k = e.1
    · rw [if_pos h]
      simp only [getM]
      by_cases h2 : k' = k
      · rw [if_pos h2, if_pos h2]
      · rw [if_neg h2, if_neg h2, if_neg (fun e2 => h2 (e2.trans h.symm))]
    · rw [if_neg h]
      simp only [getM]
      by_cases h2 : k' = e.1
      · rw [if_pos h2, if_pos h2, if_neg (fun e2 => h (e2.symm.trans h2))]
      · rw [if_neg h2, if_neg h2, ih]
theorem intM_nil : IntM [] := fun _ => ⟨rfl, show (-1 : Int) ≤ 0 by decide, show (0 : Int) ≤ 1 by decide⟩
theorem boolM_nil : BoolM [] := fun _ => rfl
theorem intM_put {M : Ents} (h : IntM M) {k : List Int} {n : Int} (hn : -1 ≤ n ∧ n ≤ 1) : IntM (putM M k (.int .i64 n)) := by
  intro k'
  have h1 := h k'
  unfold intM at h1 ⊢
  rw [getM_putM]
  by_cases e : k' = k
  · rw [if_pos e]; exact ⟨rfl, hn.1, hn.2⟩
  · rw [if_neg e]; exact h1
theorem boolM_put {M : Ents} (h : BoolM M) {k : List Int} {b : Bool} : BoolM (putM M k (.bool b)) := by
  intro k'
  have h1 := h k'
  unfold boolM at h1 ⊢
  rw [getM_putM]
  by_cases e : k' = k
  · rw [if_pos e]; rfl
  · rw [if_neg e]; exact h1
theorem boolM_fillS {T F : Ents} {s : Int} {n : List Int} {k : Nat} (h : BoolM F) : BoolM (fillS T s n F k) := by
  unfold fillS
  generalize (if (3 - k) % 2 = 1 then -s else s) = s'
  split
  · exact boolM_put h
  · exact h
theorem boolM_fill {T F : Ents} {s : Int} {n : List Int} (h : BoolM F) : BoolM (fillM T s n F) := boolM_fillS (boolM_fillS (boolM_fillS (boolM_fillS h)))
theorem cmpZ_bd (x y : Int) : -1 ≤ cmpZ x y ∧ cmpZ x y ≤ 1 := by
  unfold cmpZ
  split
  · omega
  · split <;> omega
theorem gfirst_bd (sgn : List Int → Int) (h : ∀ p, -1 ≤ sgn p ∧ sgn p ≤ 1) : ∀ (k : Nat) (p : List Int), -1 ≤ gfirst sgn k p ∧ gfirst sgn k p ≤ 1
  | 0, p => by simp [gfirst]
  | k + 1, p => by
    simp only [gfirst]
    split
    · omega
    · split
      · exact gfirst_bd sgn h k _
      · exact h p
theorem germAt_bd (p : List Int) (q : Rat) : -1 ≤ germAt p q ∧ germAt p q ≤ 1 := gfirst_bd _ (fun p => cmpZ_bd _ _) _ _
theorem mul_small {x s : Int} (hx : -1 ≤ x ∧ x ≤ 1) (hs : -1 ≤ s ∧ s ≤ 1) : -9223372036854775808 ≤ x * s ∧ x * s ≤ 9223372036854775807 := by
  have h : x = -1 ∨ x = 0 ∨ x = 1 := by omega
  rcases h with rfl | rfl | rfl <;> omega
theorem intM_turn (q : Rat) (ps : List P3) : IntM (turnM q ps) := by
  have key : ∀ (ps : List P3) (M : Ents), IntM M → IntM (ps.foldl (fun M m => putM M (key3 m) (.int .i64 (oriC q m).want)) M) := by
    intro ps
    induction ps with
    | nil => intro M h; exact h
    | cons m ps ih =>
      intro M h
      rw [List.foldl_cons]
      refine ih _ (intM_put h ?_)
      unfold oriC
      rw [mkOrient]
      exact germAt_bd _ _
  exact key ps [] intM_nil
theorem boolM_full (q : Rat) (T : Ents) (ps : List P4) : BoolM (fullM q T ps) := by
  have key : ∀ (ps : List P4) (F : Ents), BoolM F → BoolM (ps.foldl (fun F m => fillM T (cirC q m).want (key4 m) F) F) := by
    intro ps
    induction ps with
    | nil => intro M h; exact h
    | cons m ps ih => intro M h; rw [List.foldl_cons]; exact ih _ (boolM_fill h)
  exact key ps [] boolM_nil
abbrev edL (e : Int × Int) : List LV := [.int .i64 e.1, .int .i64 e.2]
def eds (l : List (Int × Int)) : LV := .row (l.map edL)
theorem rlen_eds (l : List (Int × Int)) : rlen (eds l) = some l.length := by simp [rlen, eds]
def lessE (a b : Int × Int) : Bool := decide (a.1 < b.1) || (decide (a.1 = b.1) && decide (a.2 < b.2))
def posE (e : Int × Int) : List (Int × Int) → Nat
  | [] => 0
  | x :: l => if lessE x e = true then posE e l + 1 else 0
theorem posE_le (e : Int × Int) : ∀ l, posE e l ≤ l.length
  | [] => Nat.le_refl _
  | x :: l => by
    have := posE_le e l
    simp only [posE, List.length_cons]
    split <;> omega
theorem posE_on {e x : Int × Int} {l : List (Int × Int)} {k : Nat} (hx : l[k]? = some x) (h : lessE x e = true) : posE e (l.drop k) = posE e (l.drop (k + 1)) + 1 := by
  obtain ⟨hk, hx⟩ := List.getElem?_eq_some_iff.1 hx
  rw [List.drop_eq_getElem_cons hk, hx]
  simp only [posE, h, if_true]
theorem posE_off {e x : Int × Int} {l : List (Int × Int)} {k : Nat} (hx : l[k]? = some x) (h : lessE x e = false) : posE e (l.drop k) = 0 := by
  obtain ⟨hk, hx⟩ := List.getElem?_eq_some_iff.1 hx
  rw [List.drop_eq_getElem_cons hk, hx]
  simp [posE, h]
theorem posE_end {e : Int × Int} {l : List (Int × Int)} {k : Nat} (h : ¬ k < l.length) : posE e (l.drop k) = 0 := by
  rw [List.drop_eq_nil_of_le (by omega)]; rfl
def insE (out : List (Int × Int)) (e : Int × Int) : List (Int × Int) := if out[posE e out]? = some e then out else out.take (posE e out) ++ e :: out.drop (posE e out)
theorem insE_len (out : List (Int × Int)) (e : Int × Int) : (insE out e).length ≤ out.length + 1 := by
  have := posE_le e out
  unfold insE
  split
  · omega
  · simp; omega
def edgesT (out : List (Int × Int)) (m : P3) : List (Int × Int) := insE (insE (insE out (m.1.id, m.2.1.id)) (m.1.id, m.2.2.id)) (m.2.1.id, m.2.2.id)
def edgesOf (ts : List P3) : List (Int × Int) := ts.foldl edgesT []
theorem edgesOf_take {ts : List P3} {i : Nat} {m : P3} (h : ts[i]? = some m) : edgesOf (ts.take (i + 1)) = edgesT (edgesOf (ts.take i)) m := by
  rw [List.take_succ, h]; simp [edgesOf, List.foldl_append]
end Orr

namespace Orr
open Go Go.Proofs
theorem orow4_small {a : Crv} (h : Nml a) (c : Cb a) : ∀ p ∈ orow4 a, SmallP p := by
 intro p hp
 obtain ⟨h1, k, h2, h3, h4⟩ := (orow4_b h c).get p hp
 have : k.1 ≤ 31 ∧ k.2 ≤ 2097158 := by
  simp only [List.mem_cons, List.not_mem_nil, or_false] at h2
  rcases h2 with rfl | rfl | rfl | rfl <;> decide
 exact ⟨h1, by omega, bd_mono h4 (by omega)⟩
set_option maxRecDepth 20000 in
theorem d_pred_InCircle1 {a : Crv} (ha : Nml a) (ca : Cb a) : Does Tryz.prog 235 [.agg [pl a.x, pl a.y, sg a.d, mg a.d]] (.one (pls ((orow4 a)))) := by
 refine does_ (n := 34) Tryz.func235 rfl Tryz.ntmps235 rfl ?_
 refine ac_seq (ac_reg ?_)
 refine a_box rfl rfl rfl fun g1 => ?_
 refine w_ (p_assign rfl rfl) ?_
 refine aw_nil ?_
 refine ac_seq (ac_reg ?_)
 refine w_ (p_loadOw 0 Tryz.isAgg74 Tryz.sizeOf74 rfl rfl rfl rfl rfl) ?_
 refine w_ (p_call Tryz.func170 rfl rfl rfl rfl (d_pred_norm (ha) (ca.mono (by omega) (by omega))) rfl) ?_
 refine a_storeOw 0 Tryz.sizeOf74 rfl rfl rfl rfl rfl rfl rfl ?_
 refine aw_nil ?_
 refine ac_seq ?_
 refine ac_draw mixed_ 25 [5, 6, 7, 8, 9, 10, 11, 12, 13, 14, 15, 16, 17, 18, 19, 20, 21, 22, 23, 24, 25, 26, 27, 28, 29] [[], [0], [], [2], [1, 3], [], [5], [], [7], [6, 8], [], [10], [], [12], [11, 13], [], [15], [], [17], [16, 18], [14, 19], [], [21], [], [23]] [.one (.ow g1 0), .one (pl a.x), .one (.ow g1 2), .agg [sg a.d, mg a.d], .one (pl (pscale a.x a.d)), .one (.ow g1 1), .one (pl a.y), .one (.ow g1 2), .agg [sg a.d, mg a.d], .one (pl (pscale a.y a.d)), .one (.ow g1 0), .one (pl a.x), .one (.ow g1 0), .one (pl a.x), .one (pl (pmul a.x a.x)), .one (.ow g1 1), .one (pl a.y), .one (.ow g1 1), .one (pl a.y), .one (pl (pmul a.y a.y)), .one (pl (padd (pmul a.x a.x) (pmul a.y a.y))), .one (.ow g1 2), .agg [sg a.d, mg a.d], .one (.ow g1 2), .agg [sg a.d, mg a.d]] rfl rfl rfl ⟨p_fieldOw fa_74_0 rfl rfl, p_loadOw 0 Tryz.isAgg52 Tryz.sizeOf52 rfl rfl rfl rfl rfl, p_fieldOw fa_74_2 rfl rfl, p_loadOw 0 Tryz.isAgg55 Tryz.sizeOf55 rfl rfl rfl rfl rfl, p_call Tryz.func172 rfl rfl rfl rfl (d_poly_Scale (Nat.lt_of_le_of_lt ca.lx (by decide)) (bd_mono ca.x (by omega)) (Nat.le_trans ca.d (by omega))) rfl, p_fieldOw fa_74_1 rfl rfl, p_loadOw 0 Tryz.isAgg52 Tryz.sizeOf52 rfl rfl rfl rfl rfl, p_fieldOw fa_74_2 rfl rfl, p_loadOw 0 Tryz.isAgg55 Tryz.sizeOf55 rfl rfl rfl rfl rfl, p_call Tryz.func172 rfl rfl rfl rfl (d_poly_Scale (Nat.lt_of_le_of_lt ca.ly (by decide)) (bd_mono ca.y (by omega)) (Nat.le_trans ca.d (by omega))) rfl, p_fieldOw fa_74_0 rfl rfl, p_loadOw 0 Tryz.isAgg52 Tryz.sizeOf52 rfl rfl rfl rfl rfl, p_fieldOw fa_74_0 rfl rfl, p_loadOw 0 Tryz.isAgg52 Tryz.sizeOf52 rfl rfl rfl rfl rfl, p_call Tryz.func237 rfl rfl rfl rfl (d_poly_Mul ha.1 ha.1 (Nat.lt_of_le_of_lt ca.lx (by decide)) (Nat.lt_of_le_of_lt ca.lx (by decide)) ca.x ca.x (by decide)) rfl, p_fieldOw fa_74_1 rfl rfl, p_loadOw 0 Tryz.isAgg52 Tryz.sizeOf52 rfl rfl rfl rfl rfl, p_fieldOw fa_74_1 rfl rfl, p_loadOw 0 Tryz.isAgg52 Tryz.sizeOf52 rfl rfl rfl rfl rfl, p_call Tryz.func237 rfl rfl rfl rfl (d_poly_Mul ha.2.1 ha.2.1 (Nat.lt_of_le_of_lt ca.ly (by decide)) (Nat.lt_of_le_of_lt ca.ly (by decide)) ca.y ca.y (by decide)) rfl, p_call Tryz.func236 rfl rfl rfl rfl (d_poly_Add (Nat.lt_of_le_of_lt (sq_b ca.lx ca.x).1 (by decide)) (Nat.lt_of_le_of_lt (sq_b ca.ly ca.y).1 (by decide)) (bd_mono (sq_b ca.lx ca.x).2 (by decide)) (bd_mono (sq_b ca.ly ca.y).2 (by decide))) rfl, p_fieldOw fa_74_2 rfl rfl, p_loadOw 0 Tryz.isAgg55 Tryz.sizeOf55 rfl rfl rfl rfl rfl, p_fieldOw fa_74_2 rfl rfl, p_loadOw 0 Tryz.isAgg55 Tryz.sizeOf55 rfl rfl rfl rfl rfl, trivial⟩ rfl ?_
 refine w_ (p_call Tryz.func169 rfl rfl rfl rfl (d_whole_Mul (isInt_n _) (isInt_n _) (Nat.le_trans ca.d (by omega)) (Nat.le_trans ca.d (by omega))) rfl) ?_
 refine w_ (p_lit Tryz.runUnderlying52 Tryz.sizeOf55 Tryz.zeroValue55 rfl rfl rfl rfl rfl rfl rfl rfl rfl rfl) ?_
 refine w_ (p_lit Tryz.runUnderlying287 Tryz.sizeOf52 Tryz.zeroValue52 rfl rfl rfl rfl rfl rfl rfl rfl rfl rfl) ?_
 refine w_ (p_call Tryz.func233 rfl rfl rfl rfl (d_det_Row (ps := orow4 a) (show 4 ≤ 1000 by decide) (orow4_small ha ca)) rfl) ?_
 refine w_ (p_assign rfl rfl) ?_
 refine aw_nil ?_
 refine ac_ret ?_
 exact retB_1 Tryz.results235 (rv_tmp rfl rfl) (rfl)
set_option maxRecDepth 20000 in
theorem d_pred_InCircle {a b c d : Crv} (ha : Nml a) (hb : Nml b) (hc : Nml c) (hd : Nml d) (ca : Cb a) (cb : Cb b) (cc : Cb c) (cd : Cb d) : Does Tryz.prog 165 [.agg [pl a.x, pl a.y, sg a.d, mg a.d], .agg [pl b.x, pl b.y, sg b.d, mg b.d], .agg [pl c.x, pl c.y, sg c.d, mg c.d], .agg [pl d.x, pl d.y, sg d.d, mg d.d]] (.one (pl (pcircle a b c d))) := by
 refine does_ (n := 30) Tryz.func165 rfl Tryz.ntmps165 rfl ?_
 refine ac_seq (ac_reg ?_)
 refine w_ (p_boxS rfl rfl rfl rfl) ?_
 refine w_ (p_boxS rfl rfl rfl rfl) ?_
 refine w_ (p_boxS rfl rfl rfl rfl) ?_
 refine w_ (p_boxS rfl rfl rfl rfl) ?_
 refine w_ (p_assign rfl rfl) ?_
 refine aw_nil ?_
 refine ac_seq (ac_reg ?_)
 refine w_ (p_assign rfl rfl) ?_
 refine aw_nil ?_
 refine ac_seq ?_
 refine ac_draw mixed_ 18 [13, 14, 15, 16, 17, 18, 19, 20, 21, 22, 23, 24, 25, 26, 12, 27, 28, 10] [[], [], [0, 1], [], [], [3, 4], [], [], [6, 7], [], [], [9, 10], [2, 5, 8, 11], [12], [13], [14], [14], [15]] [.one (.fn 235 [] []), .agg [pl a.x, pl a.y, sg a.d, mg a.d], .one (pls ((orow4 a))), .one (.fn 235 [] []), .agg [pl b.x, pl b.y, sg b.d, mg b.d], .one (pls ((orow4 b))), .one (.fn 235 [] []), .agg [pl c.x, pl c.y, sg c.d, mg c.d], .one (pls ((orow4 c))), .one (.fn 235 [] []), .agg [pl d.x, pl d.y, sg d.d, mg d.d], .one (pls ((orow4 d))), .one (.row [[pls ((orow4 a))], [pls ((orow4 b))], [pls ((orow4 c))], [pls ((orow4 d))]]), .tup [.one (pl (pcircle a b c d)), .one (.int .i64 0)], .tup [.one (pl (pcircle a b c d)), .one (.int .i64 0)], .one (pl (pcircle a b c d)), .one (.int .i64 0), .one (pl (pcircle a b c d))] rfl rfl rfl ⟨p_move rfl rfl, p_loadSh Tryz.isAgg74 Tryz.sizeOf74 rfl rfl rfl rfl, p_callFn rfl Tryz.func235 rfl rfl rfl rfl (d_pred_InCircle1 ha ca) rfl, p_move rfl rfl, p_loadSh Tryz.isAgg74 Tryz.sizeOf74 rfl rfl rfl rfl, p_callFn rfl Tryz.func235 rfl rfl rfl rfl (d_pred_InCircle1 hb cb) rfl, p_move rfl rfl, p_loadSh Tryz.isAgg74 Tryz.sizeOf74 rfl rfl rfl rfl, p_callFn rfl Tryz.func235 rfl rfl rfl rfl (d_pred_InCircle1 hc cc) rfl, p_move rfl rfl, p_loadSh Tryz.isAgg74 Tryz.sizeOf74 rfl rfl rfl rfl, p_callFn rfl Tryz.func235 rfl rfl rfl rfl (d_pred_InCircle1 hd cd) rfl, p_lit Tryz.runUnderlying342 Tryz.sizeOf287 Tryz.zeroValue287 rfl rfl rfl rfl rfl rfl rfl rfl rfl rfl, p_call Tryz.func234 rfl rfl rfl rfl (d_det_Det (n := 4) (cs := cols4) (M := [orow4 a, orow4 b, orow4 c, orow4 d]) rfl rfl (by decide) cols4_ok (orows4 ha hb hc hd ca cb cc cd) (by decide)) rfl, p_move rfl rfl, p_extract rfl rfl rfl, p_extract rfl rfl rfl, p_assign rfl rfl, trivial⟩ rfl ?_
 refine w_ (p_assign rfl rfl) ?_
 refine aw_nil ?_
 refine ac_seq (ac_reg ?_)
 refine w_ (p_move rfl rfl) ?_
 refine w_ (p_assign rfl rfl) ?_
 refine aw_nil ?_
 refine ac_ret ?_
 exact retB_1 Tryz.results165 (rv_tmp rfl rfl) (rfl)
set_option maxRecDepth 20000 in
theorem d_cert_Circle {a b c d : Pt} {q : Rat} (ha : Nml a.c) (hb : Nml b.c) (hc : Nml c.c) (hd : Nml d.c) (ca : Cb a.c) (cb : Cb b.c) (cc : Cb c.c) (cd : Cb d.c) (hq : Qb q) : Does Tryz.prog 201 [.one (.int .i64 4), .agg [pl ([-q.num, (q.den : Int)]), sg q.num, mg q.num, sg ((q.den : Int)), mg ((q.den : Int)), sg q.num, mg q.num, sg ((q.den : Int)), mg ((q.den : Int))], .one (.row [[pl a.c.x, pl a.c.y, sg a.c.d, mg a.c.d, .int .i64 a.id], [pl b.c.x, pl b.c.y, sg b.c.d, mg b.c.d, .int .i64 b.id], [pl c.c.x, pl c.c.y, sg c.c.d, mg c.c.d, .int .i64 c.id], [pl d.c.x, pl d.c.y, sg d.c.d, mg d.c.d, .int .i64 d.id]])] (.tup [.agg [.int .i64 ((((mkCircle q a b c d))).kind), .int .i64 ((((mkCircle q a b c d))).i0), .int .i64 ((((mkCircle q a b c d))).i1), .int .i64 ((((mkCircle q a b c d))).i2), .int .i64 ((((mkCircle q a b c d))).i3), pl (((mkCircle q a b c d)).p), .int .i64 (((mkCircle q a b c d)).want)], .one (.int .i64 0)]) := by
 refine does_ (n := 139) Tryz.func201 rfl Tryz.ntmps201 rfl ?_
 refine ac_seq (ac_reg ?_)
 refine w_ (p_boxS rfl rfl rfl rfl) ?_
 refine a_alloc Tryz.zeroValue166 rfl rfl fun g1 => ?_
 refine w_ (p_assign rfl rfl) ?_
 refine aw_nil ?_
 refine ac_seq (ac_seq (ac_reg ?_))
 refine w_ (p_move rfl rfl) ?_
 refine w_ (p_len (m := 4) Tryz.runUnderlying22 rfl (rfl) rfl) ?_
 refine w_ (p_move rfl rfl) ?_
 refine w_ (p_call Tryz.func274 rfl rfl rfl rfl (d_cert_points4) rfl) ?_
 refine w_ (p_cmp (b := false) rfl rfl rfl rfl) ?_
 refine aw_nil ?_
 refine ac_f rfl (rfl) ?_
 refine ac_skip ?_
 refine ac_seq (ac_reg ?_)
 refine w_ (p_move rfl rfl) ?_
 refine w_ (p_build (bd_44) rfl rfl rfl rfl) ?_
 refine w_ (p_build (bd_166) rfl rfl rfl rfl) ?_
 refine a_alloc Tryz.zeroValue166 rfl rfl fun g2 => ?_
 refine a_storeOw 0 Tryz.sizeOf166 rfl rfl rfl rfl rfl rfl rfl ?_
 refine aw_nil ?_
 refine ac_seq (ac_seq (ac_reg ?_))
 refine w_ (p_move rfl rfl) ?_
 refine w_ (p_len (m := 4) Tryz.runUnderlying22 rfl (rfl) rfl) ?_
 refine w_ (p_move rfl rfl) ?_
 refine aw_nil ?_
 refine ac_block ?_
 refine ac_rounds 5 ?_
 refine ac_round ?_
 refine ac_seq (ac_reg ?_)
 refine w_ (p_cmp (b := true) rfl rfl rfl rfl) ?_
 refine aw_nil ?_
 refine ac_seq ?_
 refine ac_t rfl (rfl) ?_
 refine ac_skip ?_
 refine ac_seq (ac_block (ac_seq (ac_reg ?_)))
 refine w_ (p_move rfl rfl) ?_
 refine w_ (p_index (0) Tryz.runUnderlying22 Tryz.sizeOf76 rfl rfl rfl rfl rfl rfl) ?_
 refine w_ (p_loadSh Tryz.isAgg76 Tryz.sizeOf76 rfl rfl rfl rfl) ?_
 refine a_alloc Tryz.zeroValue76 rfl rfl fun g3 => ?_
 refine w_ (p_assign rfl rfl) ?_
 refine a_storeOw 0 Tryz.sizeOf76 rfl rfl rfl rfl rfl rfl rfl ?_
 refine aw_nil ?_
 refine ac_reg ?_
 refine w_ (p_move rfl rfl) ?_
 refine w_ (p_fieldOw fa_76_1 rfl rfl) ?_
 refine w_ (p_loadOw 0 Tryz.isAgg3 Tryz.sizeOf3 rfl rfl rfl rfl rfl) ?_
 refine w_ (p_fieldOw fa_166_0 rfl rfl) ?_
 refine w_ (p_fieldOw fa_44_1 rfl rfl) ?_
 refine w_ (p_indexArrOw 0 Tryz.runUnderlying42 Tryz.sizeOf3 rfl rfl rfl (by decide) rfl) ?_
 refine a_storeOw 1 Tryz.sizeOf3 rfl rfl rfl rfl rfl rfl rfl ?_
 refine aw_nil ?_
 refine ac_reg ?_
 refine w_ (p_add (r := ((1 : Nat) : Int)) rfl rfl (rfl) rfl) ?_
 refine w_ (p_move rfl rfl) ?_
 refine aw_nil ?_
 refine ac_round ?_
 refine ac_seq (ac_reg ?_)
 refine w_ (p_cmp (b := true) rfl rfl rfl rfl) ?_
 refine aw_nil ?_
 refine ac_seq ?_
 refine ac_t rfl (rfl) ?_
 refine ac_skip ?_
 refine ac_seq (ac_block (ac_seq (ac_reg ?_)))
 refine w_ (p_move rfl rfl) ?_
 refine w_ (p_index (1) Tryz.runUnderlying22 Tryz.sizeOf76 rfl rfl rfl rfl rfl rfl) ?_
 refine w_ (p_loadSh Tryz.isAgg76 Tryz.sizeOf76 rfl rfl rfl rfl) ?_
 refine a_alloc Tryz.zeroValue76 rfl rfl fun g4 => ?_
 refine w_ (p_assign rfl rfl) ?_
 refine a_storeOw 0 Tryz.sizeOf76 rfl rfl rfl rfl rfl rfl rfl ?_
 refine aw_nil ?_
 refine ac_reg ?_
 refine w_ (p_move rfl rfl) ?_
 refine w_ (p_fieldOw fa_76_1 rfl rfl) ?_
 refine w_ (p_loadOw 0 Tryz.isAgg3 Tryz.sizeOf3 rfl rfl rfl rfl rfl) ?_
 refine w_ (p_fieldOw fa_166_0 rfl rfl) ?_
 refine w_ (p_fieldOw fa_44_1 rfl rfl) ?_
 refine w_ (p_indexArrOw 1 Tryz.runUnderlying42 Tryz.sizeOf3 rfl rfl rfl (by decide) rfl) ?_
 refine a_storeOw 2 Tryz.sizeOf3 rfl rfl rfl rfl rfl rfl rfl ?_
 refine aw_nil ?_
 refine ac_reg ?_
 refine w_ (p_add (r := ((2 : Nat) : Int)) rfl rfl (rfl) rfl) ?_
 refine w_ (p_move rfl rfl) ?_
 refine aw_nil ?_
 refine ac_round ?_
 refine ac_seq (ac_reg ?_)
 refine w_ (p_cmp (b := true) rfl rfl rfl rfl) ?_
 refine aw_nil ?_
 refine ac_seq ?_
 refine ac_t rfl (rfl) ?_
 refine ac_skip ?_
 refine ac_seq (ac_block (ac_seq (ac_reg ?_)))
 refine w_ (p_move rfl rfl) ?_
 refine w_ (p_index (2) Tryz.runUnderlying22 Tryz.sizeOf76 rfl rfl rfl rfl rfl rfl) ?_
 refine w_ (p_loadSh Tryz.isAgg76 Tryz.sizeOf76 rfl rfl rfl rfl) ?_
 refine a_alloc Tryz.zeroValue76 rfl rfl fun g5 => ?_
 refine w_ (p_assign rfl rfl) ?_
 refine a_storeOw 0 Tryz.sizeOf76 rfl rfl rfl rfl rfl rfl rfl ?_
 refine aw_nil ?_
 refine ac_reg ?_
 refine w_ (p_move rfl rfl) ?_
 refine w_ (p_fieldOw fa_76_1 rfl rfl) ?_
 refine w_ (p_loadOw 0 Tryz.isAgg3 Tryz.sizeOf3 rfl rfl rfl rfl rfl) ?_
 refine w_ (p_fieldOw fa_166_0 rfl rfl) ?_
 refine w_ (p_fieldOw fa_44_1 rfl rfl) ?_
 refine w_ (p_indexArrOw 2 Tryz.runUnderlying42 Tryz.sizeOf3 rfl rfl rfl (by decide) rfl) ?_
 refine a_storeOw 3 Tryz.sizeOf3 rfl rfl rfl rfl rfl rfl rfl ?_
 refine aw_nil ?_
 refine ac_reg ?_
 refine w_ (p_add (r := ((3 : Nat) : Int)) rfl rfl (rfl) rfl) ?_
 refine w_ (p_move rfl rfl) ?_
 refine aw_nil ?_
 refine ac_round ?_
 refine ac_seq (ac_reg ?_)
 refine w_ (p_cmp (b := true) rfl rfl rfl rfl) ?_
 refine aw_nil ?_
 refine ac_seq ?_
 refine ac_t rfl (rfl) ?_
 refine ac_skip ?_
 refine ac_seq (ac_block (ac_seq (ac_reg ?_)))
 refine w_ (p_move rfl rfl) ?_
 refine w_ (p_index (3) Tryz.runUnderlying22 Tryz.sizeOf76 rfl rfl rfl rfl rfl rfl) ?_
 refine w_ (p_loadSh Tryz.isAgg76 Tryz.sizeOf76 rfl rfl rfl rfl) ?_
 refine a_alloc Tryz.zeroValue76 rfl rfl fun g6 => ?_
 refine w_ (p_assign rfl rfl) ?_
 refine a_storeOw 0 Tryz.sizeOf76 rfl rfl rfl rfl rfl rfl rfl ?_
 refine aw_nil ?_
 refine ac_reg ?_
 refine w_ (p_move rfl rfl) ?_
 refine w_ (p_fieldOw fa_76_1 rfl rfl) ?_
 refine w_ (p_loadOw 0 Tryz.isAgg3 Tryz.sizeOf3 rfl rfl rfl rfl rfl) ?_
 refine w_ (p_fieldOw fa_166_0 rfl rfl) ?_
 refine w_ (p_fieldOw fa_44_1 rfl rfl) ?_
 refine w_ (p_indexArrOw 3 Tryz.runUnderlying42 Tryz.sizeOf3 rfl rfl rfl (by decide) rfl) ?_
 refine a_storeOw 4 Tryz.sizeOf3 rfl rfl rfl rfl rfl rfl rfl ?_
 refine aw_nil ?_
 refine ac_reg ?_
 refine w_ (p_add (r := ((4 : Nat) : Int)) rfl rfl (rfl) rfl) ?_
 refine w_ (p_move rfl rfl) ?_
 refine aw_nil ?_
 refine ac_round ?_
 refine ac_seq (ac_reg ?_)
 refine w_ (p_cmp (b := false) rfl rfl rfl rfl) ?_
 refine aw_nil ?_
 refine ac_seq ?_
 refine ac_f rfl (rfl) ?_
 refine ac_exit ?_
 repeat refine seqQ_exit ?_
 refine blkQ_here ?_
 refine ac_seq (ac_seq (ac_reg ?_))
 refine w_ (p_move rfl rfl) ?_
 refine aw_nil ?_
 refine ac_block (ac_seq (ac_reg ?_))
 refine w_ (p_cmp (b := false) rfl rfl rfl rfl) ?_
 refine w_ (p_assign rfl rfl) ?_
 refine aw_nil ?_
 refine ac_f rfl (rfl) ?_
 refine ac_seq (ac_reg ?_)
 refine w_ (p_cmp (b := false) rfl rfl rfl rfl) ?_
 refine w_ (p_assign rfl rfl) ?_
 refine aw_nil ?_
 refine ac_f rfl (rfl) ?_
 refine ac_seq (ac_reg ?_)
 refine w_ (p_cmp (b := false) rfl rfl rfl rfl) ?_
 refine w_ (p_assign rfl rfl) ?_
 refine aw_nil ?_
 refine ac_f rfl (rfl) ?_
 refine ac_seq (ac_reg ?_)
 refine w_ (p_cmp (b := true) rfl rfl rfl rfl) ?_
 refine w_ (p_assign rfl rfl) ?_
 refine aw_nil ?_
 refine ac_t rfl (rfl) ?_
 refine ac_draw mixed_ 16 [115, 116, 117, 118, 119, 120, 121, 122, 123, 124, 125, 126, 127, 128, 129, 130] [[], [0], [1], [2], [], [4], [5], [6], [], [8], [9], [10], [], [12], [13], [14]] [.one (.row [[pl a.c.x, pl a.c.y, sg a.c.d, mg a.c.d, .int .i64 a.id], [pl b.c.x, pl b.c.y, sg b.c.d, mg b.c.d, .int .i64 b.id], [pl c.c.x, pl c.c.y, sg c.c.d, mg c.c.d, .int .i64 c.id], [pl d.c.x, pl d.c.y, sg d.c.d, mg d.c.d, .int .i64 d.id]]), .one (.sh [pl a.c.x, pl a.c.y, sg a.c.d, mg a.c.d, .int .i64 a.id]), .one (.sh [pl a.c.x, pl a.c.y, sg a.c.d, mg a.c.d, .int .i64 a.id]), .agg [pl a.c.x, pl a.c.y, sg a.c.d, mg a.c.d], .one (.row [[pl a.c.x, pl a.c.y, sg a.c.d, mg a.c.d, .int .i64 a.id], [pl b.c.x, pl b.c.y, sg b.c.d, mg b.c.d, .int .i64 b.id], [pl c.c.x, pl c.c.y, sg c.c.d, mg c.c.d, .int .i64 c.id], [pl d.c.x, pl d.c.y, sg d.c.d, mg d.c.d, .int .i64 d.id]]), .one (.sh [pl b.c.x, pl b.c.y, sg b.c.d, mg b.c.d, .int .i64 b.id]), .one (.sh [pl b.c.x, pl b.c.y, sg b.c.d, mg b.c.d, .int .i64 b.id]), .agg [pl b.c.x, pl b.c.y, sg b.c.d, mg b.c.d], .one (.row [[pl a.c.x, pl a.c.y, sg a.c.d, mg a.c.d, .int .i64 a.id], [pl b.c.x, pl b.c.y, sg b.c.d, mg b.c.d, .int .i64 b.id], [pl c.c.x, pl c.c.y, sg c.c.d, mg c.c.d, .int .i64 c.id], [pl d.c.x, pl d.c.y, sg d.c.d, mg d.c.d, .int .i64 d.id]]), .one (.sh [pl c.c.x, pl c.c.y, sg c.c.d, mg c.c.d, .int .i64 c.id]), .one (.sh [pl c.c.x, pl c.c.y, sg c.c.d, mg c.c.d, .int .i64 c.id]), .agg [pl c.c.x, pl c.c.y, sg c.c.d, mg c.c.d], .one (.row [[pl a.c.x, pl a.c.y, sg a.c.d, mg a.c.d, .int .i64 a.id], [pl b.c.x, pl b.c.y, sg b.c.d, mg b.c.d, .int .i64 b.id], [pl c.c.x, pl c.c.y, sg c.c.d, mg c.c.d, .int .i64 c.id], [pl d.c.x, pl d.c.y, sg d.c.d, mg d.c.d, .int .i64 d.id]]), .one (.sh [pl d.c.x, pl d.c.y, sg d.c.d, mg d.c.d, .int .i64 d.id]), .one (.sh [pl d.c.x, pl d.c.y, sg d.c.d, mg d.c.d, .int .i64 d.id]), .agg [pl d.c.x, pl d.c.y, sg d.c.d, mg d.c.d]] rfl rfl rfl ⟨p_move rfl rfl, p_index (0) Tryz.runUnderlying22 Tryz.sizeOf76 rfl rfl rfl rfl rfl rfl, p_fieldSh fa_76_0 rfl rfl rfl, p_loadSh Tryz.isAgg74 Tryz.sizeOf74 rfl rfl rfl rfl, p_move rfl rfl, p_index (1) Tryz.runUnderlying22 Tryz.sizeOf76 rfl rfl rfl rfl rfl rfl, p_fieldSh fa_76_0 rfl rfl rfl, p_loadSh Tryz.isAgg74 Tryz.sizeOf74 rfl rfl rfl rfl, p_move rfl rfl, p_index (2) Tryz.runUnderlying22 Tryz.sizeOf76 rfl rfl rfl rfl rfl rfl, p_fieldSh fa_76_0 rfl rfl rfl, p_loadSh Tryz.isAgg74 Tryz.sizeOf74 rfl rfl rfl rfl, p_move rfl rfl, p_index (3) Tryz.runUnderlying22 Tryz.sizeOf76 rfl rfl rfl rfl rfl rfl, p_fieldSh fa_76_0 rfl rfl rfl, p_loadSh Tryz.isAgg74 Tryz.sizeOf74 rfl rfl rfl rfl, trivial⟩ rfl ?_
 refine w_ (p_call Tryz.func165 rfl rfl rfl rfl (d_pred_InCircle (ha) (hb) (hc) (hd) (ca) (cb) (cc) (cd)) rfl) ?_
 refine w_ (p_fieldOw fa_166_1 rfl rfl) ?_
 refine a_storeOw 4 Tryz.sizeOf52 rfl rfl rfl rfl rfl rfl rfl ?_
 refine aw_nil ?_
 refine ac_seq (ac_reg ?_)
 refine w_ (p_fieldOw fa_166_1 rfl rfl) ?_
 refine w_ (p_loadOw 4 Tryz.isAgg52 Tryz.sizeOf52 rfl rfl rfl rfl rfl) ?_
 refine w_ (p_loadSh Tryz.isAgg59 Tryz.sizeOf59 rfl rfl rfl rfl) ?_
 refine w_ (p_call Tryz.func99 rfl rfl rfl rfl (d_germ_AtQ (pb_circle ha hb hc hd ca cb cc cd) (hq)) rfl) ?_
 refine w_ (p_fieldOw fa_166_2 rfl rfl) ?_
 refine a_storeOw 4 Tryz.sizeOf3 rfl rfl rfl rfl rfl rfl rfl ?_
 refine aw_nil ?_
 refine ac_seq (ac_reg ?_)
 refine w_ (p_loadOw 4 Tryz.isAgg166 Tryz.sizeOf166 rfl rfl rfl rfl rfl) ?_
 refine a_storeOw 5 Tryz.sizeOf166 rfl rfl rfl rfl rfl rfl rfl ?_
 refine w_ (p_assign rfl rfl) ?_
 refine aw_nil ?_
 refine ac_ret ?_
 exact retB_2 Tryz.results201 (rv_cell 5 Tryz.isAgg166 Tryz.sizeOf166 rfl rfl rfl rfl rfl) (rv_tmp rfl rfl) (by simp only [mkCircle])
end Orr

namespace Orr
open Go
variable {P : Program} {ops : Array Oper} {n d : Nat} {L : Sg} {B : List OB} {ty : TypeId} {pos : String} {after : Array Edge}
theorem p_indexVA (i : Nat) {t E len sz : Nat} {x y : Operand} {kd : IntKind} {p : Int} {xs zs : List LV} (hu : ∀ w, (underlying t).run P w = .ok (.array len E) w) (hs : ∀ w, (Go.sizeOf E).run P w = .ok sz w) (ht : ∀ w, (isAgg E).run P w = .ok true w)
    (hx : evA L x = some (.agg xs)) (hy : evA L y = some (.one (.int kd p))) (hp : p = (i : Int)) (hi : i < len) (hz : (xs.drop (i * sz)).take sz = zs) (hd : Nat.blt d n = true) :
    AP P ops n { dst := some d, op := .index t x y, type := ty, pos := pos, after := after, guard := none } d (.agg zs) L B :=
  p_val hd fun K Ob w0 w a Bs L' Fs h hL hB => by
    subst hp hz
    obtain ⟨v, hv, vs, rfl, hreps⟩ := ev_of hL hx
    obtain ⟨u, hu', hr2⟩ := ev_of hL hy
    obtain rfl := rep_int hr2
    refine ⟨.agg ((vs.drop (i * sz)).take sz).toArray, ?_, ⟨_, rfl, (hreps.drop _).take _⟩⟩
    have h0 : (0 : Int) ≤ (i : Int) ∧ (i : Int) < (len : Int) := by omega
    simp [execOp, h.ev hv, h.ev hu', Instr.index, asIntOf, hu, hs, h0, hi, Go.part, ht, List.extract]
end Orr
namespace Orr
open Go
variable {P : Program} {ops : Array Oper} {n d : Nat} {L : Sg} {B : List OB} {ty : TypeId} {pos : String} {after : Array Edge}
theorem p_gskipU {op : Op} {j t : Nat} {want b : Bool} (hj : (ops[j]?).bind (·.dst) = some t) (hv : lk L t = some (.one (.bool b))) (hb : b = !want) (hd : Nat.blt d n = true) :
    AP P ops n { dst := some d, op := op, type := ty, pos := pos, after := after, guard := some (j, want) } d (.tup []) L B := by
  intro K Ob w0 w a Bs L' Fs h hL hB
  obtain ⟨v, hv, hr⟩ := hL t _ hv
  obtain rfl := rep_bool hr
  exact guard_skip h hj hv hb hd fun a' h' => wpList_nil ⟨rfl, _, h', ⟨[], rfl, trivial⟩⟩
theorem p_gskip2 {op : Op} {j t : Nat} {want : Bool} (hj : (ops[j]?).bind (·.dst) = some t) (hv : lk L t = some (.tup [])) (hd : Nat.blt d n = true) :
    AP P ops n { dst := some d, op := op, type := ty, pos := pos, after := after, guard := some (j, want) } d (.tup []) L B := by
  intro K Ob w0 w a Bs L' Fs h hL hB
  obtain ⟨v, hv, hr⟩ := hL t _ hv
  obtain ⟨vs, rfl, hvs⟩ : ∃ vs : List Value, v = .tuple vs.toArray ∧ TReps w (owns Ob Bs) vs [] := hr
  obtain rfl : vs = [] := List.eq_nil_of_length_eq_zero (by have := hvs.len; simpa using this)
  have hs := h.slots t _ hv
  have hw : Region.wanted { dst := some d, op := op, type := ty, pos := pos, after := after, guard := some (j, want) } (yielded ops a.tmps) = false := by
    simp [Region.wanted, yielded, hj, hs]
  unfold wpList
  rw [if_neg (by rw [hw]; simp)]
  exact wpList_nil ⟨rfl, _, h.put undef hd, ⟨[], rfl, trivial⟩⟩
end Orr

namespace Orr
open Go
variable {P : Program} {ops : Array Oper} {n : Nat} {rest : List Oper} {N : Sg → List OB → Prop} {L : Sg} {B : List OB}
def nilAt : Nat → Nat → List LV → Option (List LV)
  | 0, sz, x :: l => match x.isNil with
    | true => some (.orow none sz 0 0 :: l)
    | false => none
  | j + 1, sz, x :: l => match nilAt j sz l with
    | some r => some (x :: r)
    | none => none
  | _, _, [] => none
theorem nilAt_of {w : World} {O : Nat → Prop} : ∀ {j sz : Nat} {xs ys : List LV} {vs : List Value}, nilAt j sz xs = some ys → XReps w O vs xs → XReps w O vs ys
  | _, _, [], _, _, h, _ => by simp [nilAt] at h
  | _, _, _ :: _, _, [], _, h => h.elim
  | 0, sz, x :: l, ys, v :: vs, h, hr => by
    simp only [nilAt] at h
    split at h
    · rename_i e
      injection h with h; subst h
      have : x = .nils := by cases x <;> first | rfl | (simp [LV.isNil] at e)
      subst this
      have hv : LRep w O v .nils := hr.1
      cases hv
      exact ⟨⟨rfl, rfl, rfl⟩, hr.2⟩
    · cases h
  | j + 1, sz, x :: l, ys, v :: vs, h, hr => by
    simp only [nilAt] at h
    split at h
    · rename_i r hq
      injection h with h; subst h
      exact ⟨hr.1, nilAt_of hq hr.2⟩
    · cases h
theorem aw_ownLeaf (i j E sz : Nat) {g : Nat} {T : TypeId} {xs ys : List LV} {B' : List OB} (hi : frontB B i = some (.blk g T xs, B')) (hsz : Nat.blt 0 sz = true) (hj : nilAt j sz xs = some ys)
    (k : AW P ops n rest N L (.blk g T ys :: .row none E sz [] :: B')) : AW P ops n rest N L B := by
  intro K Ob w0 w a Q hs hQ
  rw [Nat.blt_eq] at hsz
  obtain ⟨L', Bo, Bs, h1, h2, ⟨cs, rfl, h3⟩, h4⟩ := hs.front hi
  exact k _ _ _ _ _ _ ⟨L', [(g, Tag.ty T, cs)] ++ Bs, h1, h2, [(g, Tag.ty T, cs)], Bs, rfl, ⟨cs, rfl, nilAt_of hj h3⟩, [], Bs, rfl, ⟨hsz, rfl, rfl⟩, h4⟩ hQ
end Orr

namespace Orr
open Go
variable {P : Program} {n : Nat} {L : Sg} {B : List OB} {c : Code} {Q : Exit → Sg → List OB → Prop}
theorem ac_pubLeaf (i k j : Nat) {r : Option (Nat × Nat)} {E sz len g : Nat} {T : TypeId} {ls : List (List LV)} {xs ys : List LV} {B' B2 : List OB} (hi : frontB B i = some (.row r E sz ls, B')) (hk : frontB B' k = some (.blk g T xs, B2))
    (hj : xs[j]? = some (.orow r sz 0 len)) (hys : xs.set j (.row ls) = ys) (hlen : len = ls.length) (h47 : ls.length < 140737488355328) (kk : AC P n c Q L (.blk g T ys :: B2)) : AC P n c Q L B := by
  intro K Ob w0 w a hs
  subst hlen hys
  obtain ⟨L', Bo, Bs, h1, h2, h3, h4⟩ := hs.front hi
  have hle : Le w (owns Ob (Bo ++ Bs)) w (owns Ob Bs) := ⟨Nat.le_refl _, fun _ _ _ => rfl, fun b _ ho => ho.imp id fun hm => by simp only [List.map_append, List.mem_append]; exact .inr hm⟩
  have conv : ∀ v, XRep w (owns Ob Bs) v (.orow r sz 0 ls.length) → LRep w (owns Ob Bs) v (.row ls) := fun v hv => by
    have hv2 : ARep w (owns Ob (Bo ++ Bs)) v (.one (.orow r sz 0 ls.length)) := by
      rcases r with _ | ⟨g, c⟩ <;> exact hv
    have := row_rep h1 h3 hv2 rfl (by omega) h47
    rw [List.drop_zero, List.take_length] at this
    exact this
  have h5 := h4.keep hle
  have h6 := keep_of hle h2
  obtain ⟨hxk, rfl⟩ := frontB_eq hk
  obtain ⟨Bo2, Bs2, hp, ⟨cs, rfl, h7⟩, h8⟩ := h5.front hxk
  have ho : owns Ob Bs = owns Ob ([(g, Tag.ty T, cs)] ++ Bs2) := by
    funext b
    simp only [owns]
    rw [show (b ∈ Bs.map (·.1)) = (b ∈ ([(g, Tag.ty T, cs)] ++ Bs2).map (·.1)) from propext ((hp.map _).mem_iff)]
  obtain ⟨v, hv, hvr⟩ := h7.get hj
  have h9 := conv v hvr
  have h10 : XReps w (owns Ob Bs) cs (xs.set j (.row ls)) := by
    refine XReps.of (by rw [List.length_set]; exact h7.len) fun q u x hu hx => ?_
    rw [List.getElem?_set] at hx
    split at hx
    · rename_i e
      subst e
      split at hx <;> first | cases hx | skip
      rw [hv] at hu; injection hu with hu; subst hu
      exact LRep.x h9
    · exact h7.get' hu hx
  rw [ho] at h6 h8 h10
  exact kk _ _ _ _ _ ⟨L', [(g, Tag.ty T, cs)] ++ Bs2, h1.tailB.perm hp.symm, h6, [(g, Tag.ty T, cs)], Bs2, rfl, ⟨cs, rfl, h10⟩, h8⟩
end Orr
