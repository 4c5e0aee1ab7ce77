/- What all laws of new structures have alike. Rows that a struct holds: taken as one's own, and given away. Package tourney, told in data. The law TourneyNews, told in data. What an argument reads as, told in plain data, where it is not looked into. The last step of a law of points and a number: the arguments as they lie in memory are told in plain data; behind the call nothing of the old memory has changed. -/
import Derived.Test.YtaffmkgbfgjgeaaGreatPart08
import Derived.Deep.Slices
import Derived.ProofKit
import Derived.OpenShut
import Derived.WideKeyArgs
import Derived.SizedLaws
set_option linter.all false

namespace Orr
open Go Go.Proofs
theorem snoc_map {α β : Type} (f : α → β) (l : List α) (x : α) : l.map f ++ [f x] = (l ++ [x]).map f := by simp
theorem snoc_len {α : Type} (l : List α) (x : α) : l.length + 1 = (l ++ [x]).length := by simp
abbrev GoodP (l : List Pt) : Prop := ∀ a ∈ l, Nml a.c ∧ Cb a.c
theorem newL_mem : ∀ (qs acc : List Pt) {p : Pt}, p ∈ (newL acc qs).1 → p ∈ qs ∨ p ∈ acc
  | [], acc, p, h => .inr h
  | q :: qs, acc, p, h => by
    simp only [newL] at h
    split at h
    · rcases newL_mem qs _ h with h | h
      · exact .inl (List.mem_cons_of_mem _ h)
      · rcases put_mem h with rfl | h
        · exact .inl (List.mem_cons_self ..)
        · exact .inr h
    · cases h
theorem qs_0 : Qs 1 (ratOf 0 0) := by
  unfold ratOf
  exact Qs.divInt (by decide) (by decide) (by decide)
theorem good_still {x y : Int} (hx : -9223372036854775808 ≤ x ∧ x ≤ 9223372036854775807) (hy : -9223372036854775808 ≤ y ∧ y ≤ 9223372036854775807) : Nml (still x y) ∧ Cb (still x y) :=
  ⟨Crv.nml _, ((cs_still hx hy).norm (by decide)).mono (by omega) (by omega)⟩
def idAt : List LV → Int
  | [_, _, _, _, .int _ id] => id
  | _ => 0
def npt (zs : List (List LV)) (k : Nat) : Pt := { c := still (k : Int) (if k < zs.length then ((k * k : Nat) : Int) else -((k * k : Nat) : Int)), id := if k < zs.length then idAt (zs.getD k []) % 40 else ((100 + k : Nat) : Int) }
def npts (zs : List (List LV)) (n : Nat) : List Pt := (List.range n).map (npt zs)
theorem npts_len (zs : List (List LV)) (n : Nat) : (npts zs n).length = n := by simp [npts]
theorem npts_snoc (zs : List (List LV)) (i : Nat) : (npts zs (i + 1)).map ofPt = (npts zs i).map ofPt ++ [ofPt (npt zs i)] := by
  unfold npts; rw [List.range_succ, List.map_append, List.map_append]; rfl
theorem npt_in {zs : List (List LV)} {i : Nat} (h : i < zs.length) : npt zs i = { c := still (i : Int) ((i * i : Nat) : Int), id := idAt zs[i] % 40 } := by
  unfold npt; rw [if_pos h, if_pos h, List.getD_eq_getElem?_getD, List.getElem?_eq_getElem h]; rfl
theorem npt_out {zs : List (List LV)} {i : Nat} (h : ¬ i < zs.length) : npt zs i = { c := still (i : Int) (-((i * i : Nat) : Int)), id := ((100 + i : Nat) : Int) } := by
  unfold npt; rw [if_neg h, if_neg h]
theorem npts_good {zs : List (List LV)} {n : Nat} (hn : n ≤ 8) : GoodP (npts zs n) := by
  intro a ha
  obtain ⟨k, hk, rfl⟩ := List.mem_map.1 ha
  have hk := List.mem_range.1 hk
  have : k * k ≤ 8 * 8 := Nat.mul_le_mul (by omega) (by omega)
  exact good_still (by omega) (by split <;> omega)
theorem npts_get {zs : List (List LV)} {n k : Nat} (h : k < n) : (npts zs n)[k]? = some (npt zs k) := by
  unfold npts; rw [List.getElem?_map, List.getElem?_range h]; rfl
theorem npts_pw (zs : List (List LV)) (n : Nat) : (npts zs n).Pairwise (fun a b => a.id ≠ b.id) ↔ ∀ k j, k < j → j < n → (npt zs k).id ≠ (npt zs j).id := by
  rw [List.pairwise_iff_getElem]
  constructor
  · intro h k j hkj hj
    have := h k j (by rw [npts_len]; omega) (by rw [npts_len]; omega) hkj
    simpa [npts] using this
  · intro h k j hk hj hkj
    rw [npts_len] at hj
    have := h k j hkj hj
    simpa [npts] using this
theorem npts_id {zs : List (List LV)} {n : Nat} (hn : n ≤ 8) : ∀ p ∈ npts zs n, p.id < 200 := by
  intro a ha
  obtain ⟨k, hk, rfl⟩ := List.mem_map.1 ha
  have hk := List.mem_range.1 hk
  unfold npt
  split
  · have := Int.emod_lt_of_pos (idAt (zs.getD k [])) (show (0 : Int) < 40 by decide); show _ % 40 < 200; omega
  · show ((100 + k : Nat) : Int) < 200; omega
theorem put_new {l : List Pt} {c : Crv} {x : Int} (hs : SortedP l) (hl : l.length < 6) (hx : ∀ p ∈ l, p.id < x) : putE l (Pt.mk c x) = 0 := by
  rw [putE_few hl]
  have : has l x = false := by
    cases h : has l x
    · rfl
    · obtain ⟨p, hp, e⟩ := (has_iff hs).1 h
      have := hx p hp; omega
  rw [this]; rfl
theorem put_full {l : List Pt} {c : Crv} {x : Int} (hs : SortedP l) (hl : l.length = 6) (hx : ∀ p ∈ l, p.id < x) : putE l (Pt.mk c x) = 9 := by
  unfold putE
  have : has l x = false := by
    cases h : has l x
    · rfl
    · obtain ⟨p, hp, e⟩ := (has_iff hs).1 h
      have := hx p hp; omega
  rw [this, if_neg (by decide), if_pos (by omega)]
theorem has_new {l : List Pt} {x : Int} (hs : SortedP l) (hx : ∀ p ∈ l, p.id < x) : has l x = false := by
  cases h : has l x
  · rfl
  · obtain ⟨p, hp, e⟩ := (has_iff hs).1 h
    have := hx p hp; omega
theorem cs_nil : Cs 4294967294 1073741824 (Crv.mk [] [] 0) := ⟨fun _ h => absurd h (by simp), fun _ h => absurd h (by simp), Nat.zero_le _, Nat.zero_le _, Nat.zero_le _⟩
/-- rows of points of which only the names are read -/
def Named (zs : List (List LV)) : Prop := ∀ z ∈ zs, ∃ x0 x1 x2 x3 id, z = [x0, x1, x2, x3, .int .i64 id] ∧ -9223372036854775808 ≤ id ∧ id ≤ 9223372036854775807

theorem tmod_neg {v n : Int} (hn : 0 < n) (h : v.tmod n < 0) : v.tmod n + n = v % n := by
  have h1 := Int.tmod_eq_emod (a := v) (b := n)
  have h2 := Int.emod_nonneg v (b := n) (by omega)
  have h3 := Int.emod_lt_of_pos v hn
  rw [h1] at h ⊢
  split at h <;> split <;> omega
theorem tmod_pos {v n : Int} (hn : 0 < n) (h : ¬ v.tmod n < 0) : v.tmod n = v % n := by
  have h1 := Int.tmod_eq_emod (a := v) (b := n)
  have h2 := Int.emod_nonneg v (b := n) (by omega)
  have h3 := Int.emod_lt_of_pos v hn
  rw [h1] at h ⊢
  split at h <;> split <;> omega

theorem d_keep_Within {v n : Int} (hv : -9223372036854775808 ≤ v ∧ v ≤ 9223372036854775807) (hn : 0 < n ∧ n ≤ 1000000) : Does Tryz.prog 18 [.one (.int .i64 v), .one (.int .i64 n)] (.one (.int .i64 ((v % n)))) := by
  refine does_ (n := 17) Tryz.func18 rfl Tryz.ntmps18 rfl ?_
  have hlt := Int.tmod_lt_of_pos v hn.1
  have hgt : -n < v.tmod n := by have := Int.tmod_eq_emod (a := v) (b := n); have := Int.emod_nonneg v (b := n) (by omega); have := Int.emod_lt_of_pos v hn.1; split at * <;> omega
  by_cases h0 : v.tmod n < 0
  · skip
    refine ac_seq ?_
    refine ac_reg ?_
    refine w_ (p_assign rfl rfl) ?_
    refine aw_nil ?_
    refine ac_seq ?_
    refine ac_seq ?_
    refine ac_reg ?_
    refine w_ (p_move rfl rfl) ?_
    refine w_ (p_cmp rfl rfl rfl rfl) ?_
    refine aw_nil ?_
    refine ac_f rfl (decide_eq_false (by omega)) ?_
    refine ac_skip ?_
    refine ac_seq ?_
    refine ac_reg ?_
    refine w_ (p_move rfl rfl) ?_
    refine w_ (p_move rfl rfl) ?_
    refine w_ (p_rem (r := (v.tmod n)) rfl rfl (by omega) (rfl) rfl) ?_
    refine w_ (p_assign rfl rfl) ?_
    refine aw_nil ?_
    refine ac_seq ?_
    refine ac_seq ?_
    refine ac_reg ?_
    refine w_ (p_move rfl rfl) ?_
    refine w_ (p_cmp rfl rfl rfl rfl) ?_
    refine aw_nil ?_
    refine ac_t rfl (decide_eq_true h0) ?_
    refine ac_reg ?_
    refine w_ (p_move rfl rfl) ?_
    refine w_ (p_move rfl rfl) ?_
    refine w_ (p_add (r := (v % n)) rfl rfl (by rw [tmod_neg hn.1 h0]; exact wrap64_of (by have := Int.emod_nonneg v (b := n) (by omega); omega) (by have := Int.emod_lt_of_pos v hn.1; omega)) rfl) ?_
    refine w_ (p_assign rfl rfl) ?_
    refine aw_nil ?_
    refine ac_seq ?_
    refine ac_reg ?_
    refine w_ (p_move rfl rfl) ?_
    refine w_ (p_assign rfl rfl) ?_
    refine aw_nil ?_
    refine ac_ret ?_
    exact retB_1 Tryz.results18 (rv_tmp rfl rfl) (rfl)
  · skip
    refine ac_seq ?_
    refine ac_reg ?_
    refine w_ (p_assign rfl rfl) ?_
    refine aw_nil ?_
    refine ac_seq ?_
    refine ac_seq ?_
    refine ac_reg ?_
    refine w_ (p_move rfl rfl) ?_
    refine w_ (p_cmp rfl rfl rfl rfl) ?_
    refine aw_nil ?_
    refine ac_f rfl (decide_eq_false (by omega)) ?_
    refine ac_skip ?_
    refine ac_seq ?_
    refine ac_reg ?_
    refine w_ (p_move rfl rfl) ?_
    refine w_ (p_move rfl rfl) ?_
    refine w_ (p_rem (r := (v.tmod n)) rfl rfl (by omega) (rfl) rfl) ?_
    refine w_ (p_assign rfl rfl) ?_
    refine aw_nil ?_
    refine ac_seq ?_
    refine ac_seq ?_
    refine ac_reg ?_
    refine w_ (p_move rfl rfl) ?_
    refine w_ (p_cmp rfl rfl rfl rfl) ?_
    refine aw_nil ?_
    refine ac_f rfl (decide_eq_false h0) ?_
    refine ac_skip ?_
    refine ac_seq ?_
    refine ac_reg ?_
    refine w_ (p_move rfl rfl) ?_
    refine w_ (p_assign rfl rfl) ?_
    refine aw_nil ?_
    refine ac_ret ?_
    exact retB_1 Tryz.results18 (rv_tmp rfl rfl) (by rw [tmod_pos hn.1 h0])

end Orr

namespace Orr
open Go
variable {P : Program} {ops : Array Oper} {n : Nat} {rest : List Oper} {N : Sg → List OB → Prop} {L : Sg} {B : List OB}
def nilAt : Nat → Nat → List LV → Option (List LV)
  | 0, sz, x :: l => match x.isNil with
    | true => some (.orow none sz 0 0 :: l)
    | false => none
  | j + 1, sz, x :: l => match nilAt j sz l with
    | some r => some (x :: r)
    | none => none
  | _, _, [] => none
theorem nilAt_of {w : World} {O : Nat → Prop} : ∀ {j sz : Nat} {xs ys : List LV} {vs : List Value}, nilAt j sz xs = some ys → XReps w O vs xs → XReps w O vs ys
  | _, _, [], _, _, h, _ => by simp [nilAt] at h
  | _, _, _ :: _, _, [], _, h => h.elim
  | 0, sz, x :: l, ys, v :: vs, h, hr => by
    simp only [nilAt] at h
    split at h
    · rename_i e
      injection h with h; subst h
      have : x = .nils := by cases x <;> first | rfl | (simp [LV.isNil] at e)
      subst this
      have hv : LRep w O v .nils := hr.1
      cases hv
      exact ⟨⟨rfl, rfl, rfl⟩, hr.2⟩
    · cases h
  | j + 1, sz, x :: l, ys, v :: vs, h, hr => by
    simp only [nilAt] at h
    split at h
    · rename_i r hq
      injection h with h; subst h
      exact ⟨hr.1, nilAt_of hq hr.2⟩
    · cases h
theorem aw_ownLeaf (i j E sz : Nat) {g : Nat} {T : TypeId} {xs ys : List LV} {B' : List OB} (hi : frontB B i = some (.blk g T xs, B')) (hsz : Nat.blt 0 sz = true) (hj : nilAt j sz xs = some ys)
    (k : AW P ops n rest N L (.blk g T ys :: .row none E sz [] :: B')) : AW P ops n rest N L B := by
  intro K Ob w0 w a Q hs hQ
  rw [Nat.blt_eq] at hsz
  obtain ⟨L', Bo, Bs, h1, h2, ⟨cs, rfl, h3⟩, h4⟩ := hs.front hi
  exact k _ _ _ _ _ _ ⟨L', [(g, T, cs)] ++ Bs, h1, h2, [(g, T, cs)], Bs, rfl, ⟨cs, rfl, nilAt_of hj h3⟩, [], Bs, rfl, ⟨hsz, rfl, rfl⟩, h4⟩ hQ
theorem aw_pubLeaf (i k j : Nat) {r : Option (Nat × Nat)} {E sz len g : Nat} {T : TypeId} {ls : List (List LV)} {xs ys : List LV} {B' B2 : List OB} (hi : frontB B i = some (.row r E sz ls, B')) (hk : frontB B' k = some (.blk g T xs, B2))
    (hj : xs[j]? = some (.orow r sz 0 len)) (hys : xs.set j (.row ls) = ys) (hlen : len = ls.length) (h47 : ls.length < 140737488355328) (kk : AW P ops n rest N L (.blk g T ys :: B2)) : AW P ops n rest N L B := by
  intro K Ob w0 w a Q hs hQ
  subst hlen hys
  obtain ⟨L', Bo, Bs, h1, h2, h3, h4⟩ := hs.front hi
  have hle : Le w (owns Ob (Bo ++ Bs)) w (owns Ob Bs) := ⟨Nat.le_refl _, fun _ _ _ => rfl, fun b _ ho => ho.imp id fun hm => by simp only [List.map_append, List.mem_append]; exact .inr hm⟩
  have conv : ∀ v, XRep w (owns Ob Bs) v (.orow r sz 0 ls.length) → LRep w (owns Ob Bs) v (.row ls) := fun v hv => by
    have hv2 : ARep w (owns Ob (Bo ++ Bs)) v (.one (.orow r sz 0 ls.length)) := by
      rcases r with _ | ⟨g, c⟩ <;> exact hv
    have := row_rep h1 h3 hv2 rfl (by omega) h47
    rw [List.drop_zero, List.take_length] at this
    exact this
  have h5 := h4.keep hle
  have h6 := keep_of hle h2
  obtain ⟨hxk, rfl⟩ := frontB_eq hk
  obtain ⟨Bo2, Bs2, hp, ⟨cs, rfl, h7⟩, h8⟩ := h5.front hxk
  have ho : owns Ob Bs = owns Ob ([(g, T, cs)] ++ Bs2) := by
    funext b
    simp only [owns]
    rw [show (b ∈ Bs.map (·.1)) = (b ∈ ([(g, T, cs)] ++ Bs2).map (·.1)) from propext ((hp.map _).mem_iff)]
  obtain ⟨v, hv, hvr⟩ := h7.get hj
  have h9 := conv v hvr
  have h10 : XReps w (owns Ob Bs) cs (xs.set j (.row ls)) := by
    refine XReps.of (by rw [List.length_set]; exact h7.len) fun q u x hu hx => ?_
    rw [List.getElem?_set] at hx
    split at hx
    · rename_i e
      subst e
      split at hx <;> first | cases hx | skip
      rw [hv] at hu; injection hu with hu; subst hu
      exact LRep.x h9
    · exact h7.get' hu hx
  rw [ho] at h6 h8 h10
  exact kk _ _ _ _ _ _ ⟨L', [(g, T, cs)] ++ Bs2, h1.tailB.perm hp.symm, h6, [(g, T, cs)], Bs2, rfl, ⟨cs, rfl, h10⟩, h8⟩ hQ
end Orr

namespace Orr
open Go Go.Proofs
def playB (g : Nat) (c0 c1 c2 c3 c4 c5 c6 c7 c8 c9 c10 c11 y0 y1 : LV) (r : Option (Nat × Nat)) (ms : List (Pt × Pt)) : List OB := [.blk g 122 [c0, c1, c2, c3, c4, c5, c6, c7, c8, c9, c10, c11, y0, y1, .orow r 10 0 ms.length], .row r 198 10 (ms.map ofGm)]
theorem playB_eq (g : Nat) (c0 c1 c2 c3 c4 c5 c6 c7 c8 c9 c10 c11 y0 y1 : LV) (r : Option (Nat × Nat)) (ms : List (Pt × Pt)) : playB g c0 c1 c2 c3 c4 c5 c6 c7 c8 c9 c10 c11 y0 y1 r ms = [.blk g 122 [c0, c1, c2, c3, c4, c5, c6, c7, c8, c9, c10, c11, y0, y1, .orow r 10 0 ms.length], .row r 198 10 (ms.map ofGm)] := rfl
def PlayOk (g : Nat) (c0 c1 c2 c3 c4 c5 c6 c7 c8 c9 c10 c11 y0 y1 : LV) (q : Rat) (l : List Pt) : Prop := ∀ (r : Option (Nat × Nat)) (ms : List (Pt × Pt)), ms.length + l.length ≤ 1000000 →
  DoesB Tryz.prog 205 [.one (.ow g 0), .agg [pl ([-q.num, (q.den : Int)]), sg q.num, mg q.num, sg ((q.den : Int)), mg ((q.den : Int)), sg q.num, mg q.num, sg ((q.den : Int)), mg ((q.den : Int))], .one (pts l)] [.blk g 122 [c0, c1, c2, c3, c4, c5, c6, c7, c8, c9, c10, c11, y0, y1, .orow r 10 0 ms.length], .row r 198 10 (ms.map ofGm)] fun R B => R = .one (pts (play q l).1) ∧ ∃ r', B = [.blk g 122 [c0, c1, c2, c3, c4, c5, c6, c7, c8, c9, c10, c11, y0, y1, .orow r' 10 0 ((ms ++ (play q l).2).length)], .row r' 198 10 ((ms ++ (play q l).2).map ofGm)]

set_option maxRecDepth 20000 in
theorem d_play_step {g : Nat} {r : Option (Nat × Nat)} {c0 c1 c2 c3 c4 c5 c6 c7 c8 c9 c10 c11 y0 y1 : LV} {ms : List (Pt × Pt)} {l : List Pt} {q : Rat} (hq : Qb q) (hl : GoodP l) (hn : l.length ≤ 1000) (hm : ms.length + l.length ≤ 1000000)
    (ih : ∀ l' : List Pt, l'.length < l.length → GoodP l' → PlayOk g c0 c1 c2 c3 c4 c5 c6 c7 c8 c9 c10 c11 y0 y1 q l') : DoesB Tryz.prog 205 [.one (.ow g 0), .agg [pl ([-q.num, (q.den : Int)]), sg q.num, mg q.num, sg ((q.den : Int)), mg ((q.den : Int)), sg q.num, mg q.num, sg ((q.den : Int)), mg ((q.den : Int))], .one (pts l)] [.blk g 122 [c0, c1, c2, c3, c4, c5, c6, c7, c8, c9, c10, c11, y0, y1, .orow r 10 0 ms.length], .row r 198 10 (ms.map ofGm)] fun R B => R = .one (pts (play q l).1) ∧ ∃ r', B = [.blk g 122 [c0, c1, c2, c3, c4, c5, c6, c7, c8, c9, c10, c11, y0, y1, .orow r' 10 0 ((ms ++ (play q l).2).length)], .row r' 198 10 ((ms ++ (play q l).2).map ofGm)] := by
  refine does_ (n := 59) Tryz.func205 rfl Tryz.ntmps205 rfl ?_
  by_cases h2 : l.length < 2
  · skip
    refine ac_seq ?_
    refine ac_reg ?_
    refine w_ (p_boxS rfl rfl rfl rfl) ?_
    refine w_ (p_assign rfl rfl) ?_
    refine aw_nil ?_
    refine ac_seq ?_
    refine ac_seq ?_
    refine ac_reg ?_
    refine w_ (p_move rfl rfl) ?_
    refine w_ (p_len (m := l.length) Tryz.runUnderlying22 rfl (rlen_pts _) rfl) ?_
    refine w_ (p_cmp rfl rfl rfl rfl) ?_
    refine aw_nil ?_
    refine ac_t rfl (decide_eq_true (by omega)) ?_
    refine ac_seq ?_
    refine ac_reg ?_
    refine w_ (p_move rfl rfl) ?_
    refine w_ (p_assign rfl rfl) ?_
    refine aw_nil ?_
    have hp := play_few q h2
    refine ac_ret ?_
    exact ⟨_, [], _, rvs_1 Tryz.results205 (rv_tmp rfl rfl), rfl, by rw [hp]; rfl, r, by rw [hp, List.append_nil]⟩
  · have htl : (l.take ((l.length + 1) / 2)).length = ((l.length + 1) / 2) := by rw [List.length_take]; omega
    have hdl : (l.drop ((l.length + 1) / 2)).length = l.length - ((l.length + 1) / 2) := List.length_drop ..
    obtain ⟨a, ha, hal, _⟩ := play_one q l.length (l.take ((l.length + 1) / 2)) (by omega) (by omega)
    obtain ⟨b, hb, hbl, _⟩ := play_one q l.length (l.drop ((l.length + 1) / 2)) (by omega) (by omega)
    have hal := List.mem_of_mem_take hal
    have hbl := List.mem_of_mem_drop hbl
    have hg1 := play_games q l.length (l.take ((l.length + 1) / 2)) (by omega)
    have hg2 := play_games q l.length (l.drop ((l.length + 1) / 2)) (by omega)
    have ih1 := ih (l.take ((l.length + 1) / 2)) (by omega) (fun x hx => hl x (List.mem_of_mem_take hx))
    have ih2 := ih (l.drop ((l.length + 1) / 2)) (by omega) (fun x hx => hl x (List.mem_of_mem_drop hx))
    cases hbt : beats q a b
    · have hp : play q l = ([b], (play q (l.take ((l.length + 1) / 2))).2 ++ (play q (l.drop ((l.length + 1) / 2))).2 ++ [(b, a)]) := by rw [play_many q h2 ha hb]; simp [duel, hbt]
      refine ac_seq ?_
      refine ac_reg ?_
      refine w_ (p_boxS rfl rfl rfl rfl) ?_
      refine w_ (p_assign rfl rfl) ?_
      refine aw_nil ?_
      refine ac_seq ?_
      refine ac_seq ?_
      refine ac_reg ?_
      refine w_ (p_move rfl rfl) ?_
      refine w_ (p_len (m := l.length) Tryz.runUnderlying22 rfl (rlen_pts _) rfl) ?_
      refine w_ (p_cmp rfl rfl rfl rfl) ?_
      refine aw_nil ?_
      refine ac_f rfl (decide_eq_false (by omega)) ?_
      refine ac_skip ?_
      refine ac_seq ?_
      refine ac_reg ?_
      refine w_ (p_move rfl rfl) ?_
      refine w_ (p_len (m := l.length) Tryz.runUnderlying22 rfl (rlen_pts _) rfl) ?_
      refine w_ (p_add (r := ((l.length + 1 : Nat) : Int)) rfl rfl (i64_is (by omega) (by omega)) rfl) ?_
      refine w_ (p_quo (r := (((l.length + 1) / 2 : Nat) : Int)) rfl rfl (by omega) (by rw [show Int.tdiv ((l.length + 1 : Nat) : Int) 2 = ((((l.length + 1) / 2) : Nat) : Int) from rfl]; exact wrap64_of (by omega) (by omega)) rfl) ?_
      refine w_ (p_assign rfl rfl) ?_
      refine aw_nil ?_
      refine ac_seq ?_
      refine ac_drawM mixed_ 11 [18, 19, 20, 21, 22, 23, 24, 25, 26, 27, 28] [[], [], [], [], [2, 3], [0, 1, 4], [], [], [], [], [8, 9]] [.one (.ow g 0), .agg [pl ([-q.num, (q.den : Int)]), sg q.num, mg q.num, sg ((q.den : Int)), mg ((q.den : Int)), sg q.num, mg q.num, sg ((q.den : Int)), mg ((q.den : Int))], .one (pts l), .one (.int .i64 ((((l.length + 1) / 2 : Nat) : Int))), .one (pts ((l.take ((l.length + 1) / 2)))), .un, .one (.ow g 0), .agg [pl ([-q.num, (q.den : Int)]), sg q.num, mg q.num, sg ((q.den : Int)), mg ((q.den : Int)), sg q.num, mg q.num, sg ((q.den : Int)), mg ((q.den : Int))], .one (pts l), .one (.int .i64 ((((l.length + 1) / 2 : Nat) : Int))), .one (pts ((l.drop ((l.length + 1) / 2))))] 5 (fun u B => ∃ r1, u = .one (pts [a]) ∧ B = [.blk g 122 [c0, c1, c2, c3, c4, c5, c6, c7, c8, c9, c10, c11, y0, y1, .orow r1 10 0 ((ms ++ (play q (l.take ((l.length + 1) / 2))).2).length)], .row r1 198 10 ((ms ++ (play q (l.take ((l.length + 1) / 2))).2).map ofGm)]) rfl rfl rfl rfl ⟨p_move rfl rfl, p_loadSh Tryz.isAgg59 Tryz.sizeOf59 rfl rfl rfl rfl, p_move rfl rfl, p_move rfl rfl, p_sliceHi ((l.length + 1) / 2) Tryz.runUnderlying22 Tryz.sizeOf76 rfl rfl rfl (by rw [List.length_map]; omega) (map_w l (fun _ => rfl)) (l' := (l.take ((l.length + 1) / 2)).map ofPt) (by rw [List.map_take]) rfl, ?_, p_move rfl rfl, p_loadSh Tryz.isAgg59 Tryz.sizeOf59 rfl rfl rfl rfl, p_move rfl rfl, p_move rfl rfl, p_sliceLo ((l.length + 1) / 2) Tryz.runUnderlying22 Tryz.sizeOf76 rfl rfl rfl (by rw [List.length_map]; omega) (map_w l (fun _ => rfl)) (l' := (l.drop ((l.length + 1) / 2)).map ofPt) (by rw [List.map_drop]) rfl, trivial⟩ ?_ ?_
      · refine am_of_aw fun N k_ => ?_
        refine a_calls Tryz.func205 rfl rfl rfl rfl (ih1 r ms (by omega)) rfl fun r_ B_ hr_ => ?_
        obtain ⟨rfl, r1, rfl⟩ := hr_
        exact aw_nil (k_ _ _ ⟨r1, by rw [ha], rfl⟩)
      · rintro u_ B_ ⟨r1, rfl, rfl⟩
        exact ⟨p_move rfl rfl, p_loadSh Tryz.isAgg59 Tryz.sizeOf59 rfl rfl rfl rfl, p_move rfl rfl, p_move rfl rfl, p_sliceHi ((l.length + 1) / 2) Tryz.runUnderlying22 Tryz.sizeOf76 rfl rfl rfl (by rw [List.length_map]; omega) (map_w l (fun _ => rfl)) (l' := (l.take ((l.length + 1) / 2)).map ofPt) (by rw [List.map_take]) rfl, trivial, p_move rfl rfl, p_loadSh Tryz.isAgg59 Tryz.sizeOf59 rfl rfl rfl rfl, p_move rfl rfl, p_move rfl rfl, p_sliceLo ((l.length + 1) / 2) Tryz.runUnderlying22 Tryz.sizeOf76 rfl rfl rfl (by rw [List.length_map]; omega) (map_w l (fun _ => rfl)) (l' := (l.drop ((l.length + 1) / 2)).map ofPt) (by rw [List.map_drop]) rfl, trivial⟩
      · rintro u_ B_ ⟨r1, rfl, rfl⟩
        refine ⟨_, rfl, ?_⟩
        refine a_calls Tryz.func205 rfl rfl rfl rfl (ih2 r1 (ms ++ (play q (l.take ((l.length + 1) / 2))).2) (by rw [List.length_append]; omega)) rfl fun r_ B_ hr_ => ?_
        obtain ⟨rfl, r2, rfl⟩ := hr_
        refine aw_slotEq 29 (y := .one (pts [b])) rfl (by rw [hb]) ?_
        refine w_ (p_assign rfl rfl) ?_
        refine w_ (p_assign rfl rfl) ?_
        refine aw_nil ?_
        refine ac_seq ?_
        refine ac_seq ?_
        refine ac_draw mixed_ 7 [30, 31, 32, 33, 34, 35, 36] [[], [0], [1], [], [3], [4], []] [.one (pts ([a])), .one (.sh [pl a.c.x, pl a.c.y, sg a.c.d, mg a.c.d, .int .i64 a.id]), .agg [pl a.c.x, pl a.c.y, sg a.c.d, mg a.c.d, .int .i64 a.id], .one (pts ([b])), .one (.sh [pl b.c.x, pl b.c.y, sg b.c.d, mg b.c.d, .int .i64 b.id]), .agg [pl b.c.x, pl b.c.y, sg b.c.d, mg b.c.d, .int .i64 b.id], .agg [pl ([-q.num, (q.den : Int)]), sg q.num, mg q.num, sg ((q.den : Int)), mg ((q.den : Int)), sg q.num, mg q.num, sg ((q.den : Int)), mg ((q.den : Int))]] rfl rfl rfl ⟨p_move rfl rfl, p_index (0) Tryz.runUnderlying22 Tryz.sizeOf76 rfl rfl (rfl) (map_get rfl) rfl rfl, p_loadSh Tryz.isAgg76 Tryz.sizeOf76 rfl rfl rfl rfl, p_move rfl rfl, p_index (0) Tryz.runUnderlying22 Tryz.sizeOf76 rfl rfl (rfl) (map_get rfl) rfl rfl, p_loadSh Tryz.isAgg76 Tryz.sizeOf76 rfl rfl rfl rfl, p_loadSh Tryz.isAgg59 Tryz.sizeOf59 rfl rfl rfl rfl, trivial⟩ rfl ?_
        refine w_ (p_call Tryz.func98 rfl rfl rfl rfl (d_pred_Beats ((hl a hal).1) ((hl b hbl).1) ((hl a hal).2) ((hl b hbl).2) (hq)) rfl) ?_
        refine w_ (p_not rfl rfl) ?_
        refine aw_nil ?_
        refine ac_t rfl (by rw [hbt]; rfl) ?_
        refine ac_reg ?_
        refine w_ (p_move rfl rfl) ?_
        refine w_ (p_move rfl rfl) ?_
        refine w_ (p_assign rfl rfl) ?_
        refine w_ (p_assign rfl rfl) ?_
        refine aw_nil ?_
        refine ac_seq ?_
        refine ac_drawM mixed_ 14 [41, 42, 43, 44, 45, 46, 47, 48, 49, 50, 51, 52, 53, 54] [[], [], [1], [2], [3], [], [5], [6], [], [8], [9], [7, 10], [11], [4, 12]] [.one (.ow g 0), .one (.ow g 0), .one (.ow g 0), .one (.ow g 14), .one (.orow r2 10 0 ((ms ++ (play q (l.take ((l.length + 1) / 2))).2 ++ (play q (l.drop ((l.length + 1) / 2))).2).length)), .one (pts ([b])), .one (.sh [pl b.c.x, pl b.c.y, sg b.c.d, mg b.c.d, .int .i64 b.id]), .agg [pl b.c.x, pl b.c.y, sg b.c.d, mg b.c.d, .int .i64 b.id], .one (pts ([a])), .one (.sh [pl a.c.x, pl a.c.y, sg a.c.d, mg a.c.d, .int .i64 a.id]), .agg [pl a.c.x, pl a.c.y, sg a.c.d, mg a.c.d, .int .i64 a.id], .agg [pl b.c.x, pl b.c.y, sg b.c.d, mg b.c.d, .int .i64 b.id, pl a.c.x, pl a.c.y, sg a.c.d, mg a.c.d, .int .i64 a.id], .one (.row [[pl b.c.x, pl b.c.y, sg b.c.d, mg b.c.d, .int .i64 b.id, pl a.c.x, pl a.c.y, sg a.c.d, mg a.c.d, .int .i64 a.id]]), .un] 13 (fun u B => ∃ r3, u = .one (.orow r3 10 0 (ms ++ ((play q (l.take ((l.length + 1) / 2))).2 ++ (play q (l.drop ((l.length + 1) / 2))).2 ++ [(b, a)])).length) ∧ B = [.row r3 198 10 ((ms ++ ((play q (l.take ((l.length + 1) / 2))).2 ++ (play q (l.drop ((l.length + 1) / 2))).2 ++ [(b, a)])).map ofGm), .blk g 122 [c0, c1, c2, c3, c4, c5, c6, c7, c8, c9, c10, c11, y0, y1, .orow r2 10 0 ((ms ++ (play q (l.take ((l.length + 1) / 2))).2 ++ (play q (l.drop ((l.length + 1) / 2))).2).length)]]) rfl rfl rfl rfl ⟨p_move rfl rfl, p_move rfl rfl, p_nilCheck rfl rfl rfl, p_fieldOw fa_122_3 rfl rfl, p_loadOw 0 Tryz.isAgg120 Tryz.sizeOf120 rfl rfl rfl rfl rfl, p_move rfl rfl, p_index (0) Tryz.runUnderlying22 Tryz.sizeOf76 rfl rfl (rfl) (map_get rfl) rfl rfl, p_loadSh Tryz.isAgg76 Tryz.sizeOf76 rfl rfl rfl rfl, p_move rfl rfl, p_index (0) Tryz.runUnderlying22 Tryz.sizeOf76 rfl rfl (rfl) (map_get rfl) rfl rfl, p_loadSh Tryz.isAgg76 Tryz.sizeOf76 rfl rfl rfl rfl, p_build (bd_198) rfl rfl rfl rfl, p_lit Tryz.runUnderlying120 Tryz.sizeOf198 Tryz.zeroValue198 rfl rfl rfl rfl rfl rfl rfl rfl rfl rfl, ?_, trivial⟩ ?_ ?_
        · refine am_of_aw fun N k_ => ?_
          refine a_append (ls2 := (ms ++ ((play q (l.take ((l.length + 1) / 2))).2 ++ (play q (l.drop ((l.length + 1) / 2))).2 ++ [(b, a)])).map ofGm) (m2 := (ms ++ ((play q (l.take ((l.length + 1) / 2))).2 ++ (play q (l.drop ((l.length + 1) / 2))).2 ++ [(b, a)])).length) 1 Tryz.runUnderlying120 Tryz.runUnderlying120 Tryz.typeInfo198 rfl rfl Tryz.sizeOf198 Tryz.zeroValue198 rfl rfl rfl rfl rfl rfl rfl (by rw [List.length_map]; exact Nat.le_refl _) (one_w rfl) (one_f rfl) (by rw [List.length_append, List.length_append]; show _ + 1 < _; omega) (by rw [List.take_of_length_le (by rw [List.length_map]; exact Nat.le_refl _), show (ms ++ ((play q (l.take ((l.length + 1) / 2))).2 ++ (play q (l.drop ((l.length + 1) / 2))).2 ++ [(b, a)])) = (ms ++ (play q (l.take ((l.length + 1) / 2))).2 ++ (play q (l.drop ((l.length + 1) / 2))).2) ++ [(b, a)] from by simp only [List.append_assoc]]; exact snoc_map ofGm _ (b, a)) (by rw [show (ms ++ ((play q (l.take ((l.length + 1) / 2))).2 ++ (play q (l.drop ((l.length + 1) / 2))).2 ++ [(b, a)])) = (ms ++ (play q (l.take ((l.length + 1) / 2))).2 ++ (play q (l.drop ((l.length + 1) / 2))).2) ++ [(b, a)] from by simp only [List.append_assoc]]; exact snoc_len _ _) fun r1 => ?_
          exact aw_nil (k_ _ _ ⟨_, rfl, rfl⟩)
        · rintro u_ B_ ⟨r3, rfl, rfl⟩
          exact ⟨p_move rfl rfl, p_move rfl rfl, p_nilCheck rfl rfl rfl, p_fieldOw fa_122_3 rfl rfl, p_loadOw 1 Tryz.isAgg120 Tryz.sizeOf120 rfl rfl rfl rfl rfl, p_move rfl rfl, p_index (0) Tryz.runUnderlying22 Tryz.sizeOf76 rfl rfl (rfl) (map_get rfl) rfl rfl, p_loadSh Tryz.isAgg76 Tryz.sizeOf76 rfl rfl rfl rfl, p_move rfl rfl, p_index (0) Tryz.runUnderlying22 Tryz.sizeOf76 rfl rfl (rfl) (map_get rfl) rfl rfl, p_loadSh Tryz.isAgg76 Tryz.sizeOf76 rfl rfl rfl rfl, p_build (bd_198) rfl rfl rfl rfl, p_lit Tryz.runUnderlying120 Tryz.sizeOf198 Tryz.zeroValue198 rfl rfl rfl rfl rfl rfl rfl rfl rfl rfl, trivial, trivial⟩
        · rintro u_ B_ ⟨r3, rfl, rfl⟩
          refine ⟨_, rfl, ?_⟩
          refine w_ (p_nilCheck rfl rfl rfl) ?_
          refine w_ (p_fieldOw fa_122_3 rfl rfl) ?_
          refine a_storeOw 1 Tryz.sizeOf120 rfl rfl rfl rfl rfl rfl rfl ?_
          refine aw_nil ?_
          refine ac_seq ?_
          refine ac_reg ?_
          refine w_ (p_move rfl rfl) ?_
          refine w_ (p_sliceHi 1 Tryz.runUnderlying22 Tryz.sizeOf76 rfl rfl rfl (Nat.le_refl 1) (one_w rfl) (l' := [ofPt b]) rfl rfl) ?_
          refine w_ (p_assign rfl rfl) ?_
          refine aw_nil ?_
          refine ac_front 1 rfl ?_
          refine ac_ret ?_
          exact ⟨_, [], _, rvs_1 Tryz.results205 (rv_tmp rfl rfl), rfl, by rw [hp]; rfl, r3, by rw [hp]⟩
    · have hp : play q l = ([a], (play q (l.take ((l.length + 1) / 2))).2 ++ (play q (l.drop ((l.length + 1) / 2))).2 ++ [(a, b)]) := by rw [play_many q h2 ha hb]; simp [duel, hbt]
      refine ac_seq ?_
      refine ac_reg ?_
      refine w_ (p_boxS rfl rfl rfl rfl) ?_
      refine w_ (p_assign rfl rfl) ?_
      refine aw_nil ?_
      refine ac_seq ?_
      refine ac_seq ?_
      refine ac_reg ?_
      refine w_ (p_move rfl rfl) ?_
      refine w_ (p_len (m := l.length) Tryz.runUnderlying22 rfl (rlen_pts _) rfl) ?_
      refine w_ (p_cmp rfl rfl rfl rfl) ?_
      refine aw_nil ?_
      refine ac_f rfl (decide_eq_false (by omega)) ?_
      refine ac_skip ?_
      refine ac_seq ?_
      refine ac_reg ?_
      refine w_ (p_move rfl rfl) ?_
      refine w_ (p_len (m := l.length) Tryz.runUnderlying22 rfl (rlen_pts _) rfl) ?_
      refine w_ (p_add (r := ((l.length + 1 : Nat) : Int)) rfl rfl (i64_is (by omega) (by omega)) rfl) ?_
      refine w_ (p_quo (r := (((l.length + 1) / 2 : Nat) : Int)) rfl rfl (by omega) (by rw [show Int.tdiv ((l.length + 1 : Nat) : Int) 2 = ((((l.length + 1) / 2) : Nat) : Int) from rfl]; exact wrap64_of (by omega) (by omega)) rfl) ?_
      refine w_ (p_assign rfl rfl) ?_
      refine aw_nil ?_
      refine ac_seq ?_
      refine ac_drawM mixed_ 11 [18, 19, 20, 21, 22, 23, 24, 25, 26, 27, 28] [[], [], [], [], [2, 3], [0, 1, 4], [], [], [], [], [8, 9]] [.one (.ow g 0), .agg [pl ([-q.num, (q.den : Int)]), sg q.num, mg q.num, sg ((q.den : Int)), mg ((q.den : Int)), sg q.num, mg q.num, sg ((q.den : Int)), mg ((q.den : Int))], .one (pts l), .one (.int .i64 ((((l.length + 1) / 2 : Nat) : Int))), .one (pts ((l.take ((l.length + 1) / 2)))), .un, .one (.ow g 0), .agg [pl ([-q.num, (q.den : Int)]), sg q.num, mg q.num, sg ((q.den : Int)), mg ((q.den : Int)), sg q.num, mg q.num, sg ((q.den : Int)), mg ((q.den : Int))], .one (pts l), .one (.int .i64 ((((l.length + 1) / 2 : Nat) : Int))), .one (pts ((l.drop ((l.length + 1) / 2))))] 5 (fun u B => ∃ r1, u = .one (pts [a]) ∧ B = [.blk g 122 [c0, c1, c2, c3, c4, c5, c6, c7, c8, c9, c10, c11, y0, y1, .orow r1 10 0 ((ms ++ (play q (l.take ((l.length + 1) / 2))).2).length)], .row r1 198 10 ((ms ++ (play q (l.take ((l.length + 1) / 2))).2).map ofGm)]) rfl rfl rfl rfl ⟨p_move rfl rfl, p_loadSh Tryz.isAgg59 Tryz.sizeOf59 rfl rfl rfl rfl, p_move rfl rfl, p_move rfl rfl, p_sliceHi ((l.length + 1) / 2) Tryz.runUnderlying22 Tryz.sizeOf76 rfl rfl rfl (by rw [List.length_map]; omega) (map_w l (fun _ => rfl)) (l' := (l.take ((l.length + 1) / 2)).map ofPt) (by rw [List.map_take]) rfl, ?_, p_move rfl rfl, p_loadSh Tryz.isAgg59 Tryz.sizeOf59 rfl rfl rfl rfl, p_move rfl rfl, p_move rfl rfl, p_sliceLo ((l.length + 1) / 2) Tryz.runUnderlying22 Tryz.sizeOf76 rfl rfl rfl (by rw [List.length_map]; omega) (map_w l (fun _ => rfl)) (l' := (l.drop ((l.length + 1) / 2)).map ofPt) (by rw [List.map_drop]) rfl, trivial⟩ ?_ ?_
      · refine am_of_aw fun N k_ => ?_
        refine a_calls Tryz.func205 rfl rfl rfl rfl (ih1 r ms (by omega)) rfl fun r_ B_ hr_ => ?_
        obtain ⟨rfl, r1, rfl⟩ := hr_
        exact aw_nil (k_ _ _ ⟨r1, by rw [ha], rfl⟩)
      · rintro u_ B_ ⟨r1, rfl, rfl⟩
        exact ⟨p_move rfl rfl, p_loadSh Tryz.isAgg59 Tryz.sizeOf59 rfl rfl rfl rfl, p_move rfl rfl, p_move rfl rfl, p_sliceHi ((l.length + 1) / 2) Tryz.runUnderlying22 Tryz.sizeOf76 rfl rfl rfl (by rw [List.length_map]; omega) (map_w l (fun _ => rfl)) (l' := (l.take ((l.length + 1) / 2)).map ofPt) (by rw [List.map_take]) rfl, trivial, p_move rfl rfl, p_loadSh Tryz.isAgg59 Tryz.sizeOf59 rfl rfl rfl rfl, p_move rfl rfl, p_move rfl rfl, p_sliceLo ((l.length + 1) / 2) Tryz.runUnderlying22 Tryz.sizeOf76 rfl rfl rfl (by rw [List.length_map]; omega) (map_w l (fun _ => rfl)) (l' := (l.drop ((l.length + 1) / 2)).map ofPt) (by rw [List.map_drop]) rfl, trivial⟩
      · rintro u_ B_ ⟨r1, rfl, rfl⟩
        refine ⟨_, rfl, ?_⟩
        refine a_calls Tryz.func205 rfl rfl rfl rfl (ih2 r1 (ms ++ (play q (l.take ((l.length + 1) / 2))).2) (by rw [List.length_append]; omega)) rfl fun r_ B_ hr_ => ?_
        obtain ⟨rfl, r2, rfl⟩ := hr_
        refine aw_slotEq 29 (y := .one (pts [b])) rfl (by rw [hb]) ?_
        refine w_ (p_assign rfl rfl) ?_
        refine w_ (p_assign rfl rfl) ?_
        refine aw_nil ?_
        refine ac_seq ?_
        refine ac_seq ?_
        refine ac_draw mixed_ 7 [30, 31, 32, 33, 34, 35, 36] [[], [0], [1], [], [3], [4], []] [.one (pts ([a])), .one (.sh [pl a.c.x, pl a.c.y, sg a.c.d, mg a.c.d, .int .i64 a.id]), .agg [pl a.c.x, pl a.c.y, sg a.c.d, mg a.c.d, .int .i64 a.id], .one (pts ([b])), .one (.sh [pl b.c.x, pl b.c.y, sg b.c.d, mg b.c.d, .int .i64 b.id]), .agg [pl b.c.x, pl b.c.y, sg b.c.d, mg b.c.d, .int .i64 b.id], .agg [pl ([-q.num, (q.den : Int)]), sg q.num, mg q.num, sg ((q.den : Int)), mg ((q.den : Int)), sg q.num, mg q.num, sg ((q.den : Int)), mg ((q.den : Int))]] rfl rfl rfl ⟨p_move rfl rfl, p_index (0) Tryz.runUnderlying22 Tryz.sizeOf76 rfl rfl (rfl) (map_get rfl) rfl rfl, p_loadSh Tryz.isAgg76 Tryz.sizeOf76 rfl rfl rfl rfl, p_move rfl rfl, p_index (0) Tryz.runUnderlying22 Tryz.sizeOf76 rfl rfl (rfl) (map_get rfl) rfl rfl, p_loadSh Tryz.isAgg76 Tryz.sizeOf76 rfl rfl rfl rfl, p_loadSh Tryz.isAgg59 Tryz.sizeOf59 rfl rfl rfl rfl, trivial⟩ rfl ?_
        refine w_ (p_call Tryz.func98 rfl rfl rfl rfl (d_pred_Beats ((hl a hal).1) ((hl b hbl).1) ((hl a hal).2) ((hl b hbl).2) (hq)) rfl) ?_
        refine w_ (p_not rfl rfl) ?_
        refine aw_nil ?_
        refine ac_f rfl (by rw [hbt]; rfl) ?_
        refine ac_skip ?_
        refine ac_seq ?_
        refine ac_drawM mixed_ 14 [41, 42, 43, 44, 45, 46, 47, 48, 49, 50, 51, 52, 53, 54] [[], [], [1], [2], [3], [], [5], [6], [], [8], [9], [7, 10], [11], [4, 12]] [.one (.ow g 0), .one (.ow g 0), .one (.ow g 0), .one (.ow g 14), .one (.orow r2 10 0 ((ms ++ (play q (l.take ((l.length + 1) / 2))).2 ++ (play q (l.drop ((l.length + 1) / 2))).2).length)), .one (pts ([a])), .one (.sh [pl a.c.x, pl a.c.y, sg a.c.d, mg a.c.d, .int .i64 a.id]), .agg [pl a.c.x, pl a.c.y, sg a.c.d, mg a.c.d, .int .i64 a.id], .one (pts ([b])), .one (.sh [pl b.c.x, pl b.c.y, sg b.c.d, mg b.c.d, .int .i64 b.id]), .agg [pl b.c.x, pl b.c.y, sg b.c.d, mg b.c.d, .int .i64 b.id], .agg [pl a.c.x, pl a.c.y, sg a.c.d, mg a.c.d, .int .i64 a.id, pl b.c.x, pl b.c.y, sg b.c.d, mg b.c.d, .int .i64 b.id], .one (.row [[pl a.c.x, pl a.c.y, sg a.c.d, mg a.c.d, .int .i64 a.id, pl b.c.x, pl b.c.y, sg b.c.d, mg b.c.d, .int .i64 b.id]]), .un] 13 (fun u B => ∃ r3, u = .one (.orow r3 10 0 (ms ++ ((play q (l.take ((l.length + 1) / 2))).2 ++ (play q (l.drop ((l.length + 1) / 2))).2 ++ [(a, b)])).length) ∧ B = [.row r3 198 10 ((ms ++ ((play q (l.take ((l.length + 1) / 2))).2 ++ (play q (l.drop ((l.length + 1) / 2))).2 ++ [(a, b)])).map ofGm), .blk g 122 [c0, c1, c2, c3, c4, c5, c6, c7, c8, c9, c10, c11, y0, y1, .orow r2 10 0 ((ms ++ (play q (l.take ((l.length + 1) / 2))).2 ++ (play q (l.drop ((l.length + 1) / 2))).2).length)]]) rfl rfl rfl rfl ⟨p_move rfl rfl, p_move rfl rfl, p_nilCheck rfl rfl rfl, p_fieldOw fa_122_3 rfl rfl, p_loadOw 0 Tryz.isAgg120 Tryz.sizeOf120 rfl rfl rfl rfl rfl, p_move rfl rfl, p_index (0) Tryz.runUnderlying22 Tryz.sizeOf76 rfl rfl (rfl) (map_get rfl) rfl rfl, p_loadSh Tryz.isAgg76 Tryz.sizeOf76 rfl rfl rfl rfl, p_move rfl rfl, p_index (0) Tryz.runUnderlying22 Tryz.sizeOf76 rfl rfl (rfl) (map_get rfl) rfl rfl, p_loadSh Tryz.isAgg76 Tryz.sizeOf76 rfl rfl rfl rfl, p_build (bd_198) rfl rfl rfl rfl, p_lit Tryz.runUnderlying120 Tryz.sizeOf198 Tryz.zeroValue198 rfl rfl rfl rfl rfl rfl rfl rfl rfl rfl, ?_, trivial⟩ ?_ ?_
        · refine am_of_aw fun N k_ => ?_
          refine a_append (ls2 := (ms ++ ((play q (l.take ((l.length + 1) / 2))).2 ++ (play q (l.drop ((l.length + 1) / 2))).2 ++ [(a, b)])).map ofGm) (m2 := (ms ++ ((play q (l.take ((l.length + 1) / 2))).2 ++ (play q (l.drop ((l.length + 1) / 2))).2 ++ [(a, b)])).length) 1 Tryz.runUnderlying120 Tryz.runUnderlying120 Tryz.typeInfo198 rfl rfl Tryz.sizeOf198 Tryz.zeroValue198 rfl rfl rfl rfl rfl rfl rfl (by rw [List.length_map]; exact Nat.le_refl _) (one_w rfl) (one_f rfl) (by rw [List.length_append, List.length_append]; show _ + 1 < _; omega) (by rw [List.take_of_length_le (by rw [List.length_map]; exact Nat.le_refl _), show (ms ++ ((play q (l.take ((l.length + 1) / 2))).2 ++ (play q (l.drop ((l.length + 1) / 2))).2 ++ [(a, b)])) = (ms ++ (play q (l.take ((l.length + 1) / 2))).2 ++ (play q (l.drop ((l.length + 1) / 2))).2) ++ [(a, b)] from by simp only [List.append_assoc]]; exact snoc_map ofGm _ (a, b)) (by rw [show (ms ++ ((play q (l.take ((l.length + 1) / 2))).2 ++ (play q (l.drop ((l.length + 1) / 2))).2 ++ [(a, b)])) = (ms ++ (play q (l.take ((l.length + 1) / 2))).2 ++ (play q (l.drop ((l.length + 1) / 2))).2) ++ [(a, b)] from by simp only [List.append_assoc]]; exact snoc_len _ _) fun r2 => ?_
          exact aw_nil (k_ _ _ ⟨_, rfl, rfl⟩)
        · rintro u_ B_ ⟨r3, rfl, rfl⟩
          exact ⟨p_move rfl rfl, p_move rfl rfl, p_nilCheck rfl rfl rfl, p_fieldOw fa_122_3 rfl rfl, p_loadOw 1 Tryz.isAgg120 Tryz.sizeOf120 rfl rfl rfl rfl rfl, p_move rfl rfl, p_index (0) Tryz.runUnderlying22 Tryz.sizeOf76 rfl rfl (rfl) (map_get rfl) rfl rfl, p_loadSh Tryz.isAgg76 Tryz.sizeOf76 rfl rfl rfl rfl, p_move rfl rfl, p_index (0) Tryz.runUnderlying22 Tryz.sizeOf76 rfl rfl (rfl) (map_get rfl) rfl rfl, p_loadSh Tryz.isAgg76 Tryz.sizeOf76 rfl rfl rfl rfl, p_build (bd_198) rfl rfl rfl rfl, p_lit Tryz.runUnderlying120 Tryz.sizeOf198 Tryz.zeroValue198 rfl rfl rfl rfl rfl rfl rfl rfl rfl rfl, trivial, trivial⟩
        · rintro u_ B_ ⟨r3, rfl, rfl⟩
          refine ⟨_, rfl, ?_⟩
          refine w_ (p_nilCheck rfl rfl rfl) ?_
          refine w_ (p_fieldOw fa_122_3 rfl rfl) ?_
          refine a_storeOw 1 Tryz.sizeOf120 rfl rfl rfl rfl rfl rfl rfl ?_
          refine aw_nil ?_
          refine ac_seq ?_
          refine ac_reg ?_
          refine w_ (p_move rfl rfl) ?_
          refine w_ (p_sliceHi 1 Tryz.runUnderlying22 Tryz.sizeOf76 rfl rfl rfl (Nat.le_refl 1) (one_w rfl) (l' := [ofPt a]) rfl rfl) ?_
          refine w_ (p_assign rfl rfl) ?_
          refine aw_nil ?_
          refine ac_front 1 rfl ?_
          refine ac_ret ?_
          exact ⟨_, [], _, rvs_1 Tryz.results205 (rv_tmp rfl rfl), rfl, by rw [hp]; rfl, r3, by rw [hp]⟩

theorem d_play {g : Nat} {c0 c1 c2 c3 c4 c5 c6 c7 c8 c9 c10 c11 y0 y1 : LV} {q : Rat} (hq : Qb q) : ∀ (k : Nat) (l : List Pt), l.length ≤ k → GoodP l → l.length ≤ 1000 → PlayOk g c0 c1 c2 c3 c4 c5 c6 c7 c8 c9 c10 c11 y0 y1 q l
  | 0, l, hk, hl, hn => fun r ms hm => d_play_step hq hl hn hm fun l' h' _ => absurd h' (by omega)
  | k + 1, l, hk, hl, hn => fun r ms hm => d_play_step hq hl hn hm fun l' h' hg => d_play hq k l' (by omega) hg (by omega)

theorem play_mem (q : Rat) {l : List Pt} : ∀ m ∈ (play q l).2, m.1 ∈ l ∧ m.2 ∈ l := by
  rcases Nat.eq_zero_or_pos l.length with h | h
  · rw [play_few q (by omega)]; simp
  · obtain ⟨_, _, _, h2⟩ := play_one q l.length l (Nat.le_refl _) h
    exact h2
/-- the certificates of games -/
def mks (q : Rat) (gs : List (Pt × Pt)) : List Ct := gs.map fun m => mkMatch q m.1 m.2
theorem mks_take {q : Rat} {gs : List (Pt × Pt)} {i : Nat} {m : Pt × Pt} (h : gs[i]? = some m) : mks q (gs.take (i + 1)) = mks q (gs.take i) ++ [mkMatch q m.1 m.2] := by
  unfold mks; rw [List.take_succ, h, List.map_append]; rfl
theorem mks_pb {q : Rat} {l : List Pt} (hl : GoodP l) : ∀ c ∈ mks q (play q l).2, Pb c.p := by
  intro c hc
  obtain ⟨m, hm, rfl⟩ := List.mem_map.1 hc
  obtain ⟨h1, h2⟩ := play_mem q m hm
  exact either_pb (pb_above (hl _ h2).2 (hl _ h1).2).1 (pb_right (hl _ h2).2 (hl _ h1).2).1

set_option maxRecDepth 20000 in
theorem d_tourney_build {g : Nat} {c0 c1 c2 c3 c4 c5 c6 c7 c8 c9 c10 c11 y1 y2 : LV} {l : List Pt} {q : Rat} (hq : Qb q) (hl : GoodP l) (hn : l.length ≤ 1000) : DoesB Tryz.prog 121 [.one (.ow g 0), .agg [pl ([-q.num, (q.den : Int)]), sg q.num, mg q.num, sg ((q.den : Int)), mg ((q.den : Int)), sg q.num, mg q.num, sg ((q.den : Int)), mg ((q.den : Int))]] [.blk g 122 [c0, c1, c2, c3, c4, c5, c6, c7, c8, c9, c10, c11, pts l, y1, y2]] fun r B => r = .one (cts ((mks q (play q l).2))) ∧ B = [.blk g 122 [c0, c1, c2, c3, c4, c5, c6, c7, c8, c9, c10, c11, pts l, pts ((play q l).1), gms ((play q l).2)]] := by
  refine does_ (n := 49) Tryz.func121 rfl Tryz.ntmps121 rfl ?_
  have hgl := play_games q l.length l (Nat.le_refl _)
  · skip
    refine ac_seq ?_
    refine ac_reg ?_
    refine w_ (p_boxS rfl rfl rfl rfl) ?_
    refine w_ (p_assign rfl rfl) ?_
    refine aw_nil ?_
    refine ac_seq ?_
    refine ac_reg ?_
    refine w_ (p_move rfl rfl) ?_
    refine w_ (p_nilCheck rfl rfl rfl) ?_
    refine w_ (p_fieldOw fa_122_3 rfl rfl) ?_
    refine a_storeOw 0 Tryz.sizeOf120 rfl rfl rfl rfl rfl rfl rfl ?_
    refine aw_ownLeaf 0 14 198 10 rfl rfl rfl ?_
    refine aw_nil ?_
    refine ac_seq ?_
    refine ac_drawM mixed_ 9 [13, 14, 15, 16, 17, 18, 19, 20, 21] [[], [], [], [], [3], [4], [5], [6], [1, 2, 7]] [.one (.ow g 0), .one (.ow g 0), .agg [pl ([-q.num, (q.den : Int)]), sg q.num, mg q.num, sg ((q.den : Int)), mg ((q.den : Int)), sg q.num, mg q.num, sg ((q.den : Int)), mg ((q.den : Int))], .one (.ow g 0), .one (.ow g 0), .one (.ow g 12), .agg [pts l], .one (pts l), .un] 8 (fun u B => ∃ r1, u = .one (pts (play q l).1) ∧ B = [.blk g 122 [c0, c1, c2, c3, c4, c5, c6, c7, c8, c9, c10, c11, pts l, y1, .orow r1 10 0 ((play q l).2.length)], .row r1 198 10 ((play q l).2.map ofGm)]) rfl rfl rfl rfl ⟨p_move rfl rfl, p_move rfl rfl, p_loadSh Tryz.isAgg59 Tryz.sizeOf59 rfl rfl rfl rfl, p_move rfl rfl, p_nilCheck rfl rfl rfl, p_fieldOw fa_122_1 rfl rfl, p_loadOw 0 Tryz.isAgg106 Tryz.sizeOf106 rfl rfl rfl rfl rfl, p_call Tryz.func197 rfl rfl rfl rfl (d_crowd_List) rfl, ?_, trivial⟩ ?_ ?_
    · refine am_of_aw fun N k_ => ?_
      refine a_calls (Bin := [.blk g 122 [c0, c1, c2, c3, c4, c5, c6, c7, c8, c9, c10, c11, pts l, y1, .orow none 10 0 0], .row none 198 10 ([])]) Tryz.func205 rfl rfl rfl rfl (d_play hq l.length l (Nat.le_refl _) hl hn none [] (by simp; omega)) rfl fun r_ B_ hr_ => ?_
      obtain ⟨rfl, r1, rfl⟩ := hr_
      exact aw_nil (k_ _ _ ⟨r1, rfl, rfl⟩)
    · rintro u_ B_ ⟨r1, rfl, rfl⟩
      exact ⟨p_move rfl rfl, p_move rfl rfl, p_loadSh Tryz.isAgg59 Tryz.sizeOf59 rfl rfl rfl rfl, p_move rfl rfl, p_nilCheck rfl rfl rfl, p_fieldOw fa_122_1 rfl rfl, p_loadOw 0 Tryz.isAgg106 Tryz.sizeOf106 rfl rfl rfl rfl rfl, p_call Tryz.func197 rfl rfl rfl rfl (d_crowd_List) rfl, trivial, trivial⟩
    · rintro u_ B_ ⟨r1, rfl, rfl⟩
      refine ⟨_, rfl, ?_⟩
      refine w_ (p_nilCheck rfl rfl rfl) ?_
      refine w_ (p_fieldOw fa_122_2 rfl rfl) ?_
      refine a_storeOw 0 Tryz.sizeOf22 rfl rfl rfl rfl rfl rfl rfl ?_
      refine aw_pubLeaf 1 0 14 rfl rfl rfl rfl (by rw [List.length_map]) (by rw [List.length_map]; omega) ?_
      refine aw_nil ?_
      refine ac_seq ?_
      refine ac_reg ?_
      refine w_ (p_assign rfl rfl) ?_
      refine aw_nil ?_
      refine ac_seq ?_
      refine ac_seq ?_
      refine ac_reg ?_
      refine w_ (p_move rfl rfl) ?_
      refine w_ (p_nilCheck rfl rfl rfl) ?_
      refine w_ (p_fieldOw fa_122_3 rfl rfl) ?_
      refine w_ (p_loadOw 0 Tryz.isAgg120 Tryz.sizeOf120 rfl rfl rfl rfl rfl) ?_
      refine w_ (p_len (m := ((play q l).2).length) Tryz.runUnderlying120 rfl (rlen_gms _) rfl) ?_
      refine w_ (p_move rfl rfl) ?_
      refine aw_nil ?_
      refine ac_block ?_
      refine ac_ownNil [5] 166 7 rfl (allAre1 rfl) rfl ?_
      refine ac_pick [0, 3, 5, 27, 28, 29] rfl ?_
      refine ac_loop (fun m L B => ∃ i r, i ≤ (play q l).2.length ∧ m = (play q l).2.length - i ∧ L = [(0, .one (.ow g 0)), (3, .one (.sh [pl ([-q.num, (q.den : Int)]), sg q.num, mg q.num, sg ((q.den : Int)), mg ((q.den : Int)), sg q.num, mg q.num, sg ((q.den : Int)), mg ((q.den : Int))])), (5, .one (.orow r 7 0 i)), (27, .one (gms ((play q l).2))), (28, .one (.int .i64 (((((play q l).2).length : Nat) : Int)))), (29, .one (.int .i64 (((i : Nat) : Int))))] ∧ B = [.row r 166 7 ((mks q ((play q l).2.take i)).map ofCt), .blk g 122 [c0, c1, c2, c3, c4, c5, c6, c7, c8, c9, c10, c11, pts l, pts ((play q l).1), gms ((play q l).2)]]) (m := _) ⟨0, none, Nat.zero_le _, rfl, rfl, rfl⟩ ?_
      rintro m L B ⟨i, r, hp0, hm, rfl, rfl⟩
      by_cases hlt : i < (play q l).2.length
      · obtain ⟨m_, hm⟩ : ∃ m_, (play q l).2[i]? = some m_ := ⟨_, List.getElem?_eq_getElem hlt⟩
        obtain ⟨hm1, hm2⟩ := play_mem q m_ (List.mem_of_getElem? hm)
        have hml : (mks q ((play q l).2.take i)).length = i := by unfold mks; rw [List.length_map, List.length_take]; omega
        refine ac_seq ?_
        refine ac_reg ?_
        refine w_ (p_cmp rfl rfl rfl rfl) ?_
        refine aw_nil ?_
        refine ac_seq ?_
        refine ac_t rfl (decide_eq_true (by omega)) ?_
        refine ac_skip ?_
        refine ac_seq ?_
        refine ac_block ?_
        refine ac_seq ?_
        refine ac_reg ?_
        refine w_ (p_index (i) Tryz.runUnderlying120 Tryz.sizeOf198 rfl rfl (rfl) (map_get hm) rfl rfl) ?_
        refine w_ (p_loadSh Tryz.isAgg198 Tryz.sizeOf198 rfl rfl rfl rfl) ?_
        refine a_alloc Tryz.zeroValue198 rfl rfl fun g1 => ?_
        refine a_storeOw 0 Tryz.sizeOf198 rfl rfl rfl rfl rfl rfl rfl ?_
        refine aw_nil ?_
        refine ac_seq ?_
        refine ac_reg ?_
        refine w_ (p_loadSh Tryz.isAgg59 Tryz.sizeOf59 rfl rfl rfl rfl) ?_
        refine w_ (p_indexArrOw 0 Tryz.runUnderlying198 Tryz.sizeOf76 rfl rfl rfl (by decide) rfl) ?_
        refine w_ (p_loadOw 0 Tryz.isAgg76 Tryz.sizeOf76 rfl rfl rfl rfl rfl) ?_
        refine w_ (p_indexArrOw 1 Tryz.runUnderlying198 Tryz.sizeOf76 rfl rfl rfl (by decide) rfl) ?_
        refine w_ (p_loadOw 0 Tryz.isAgg76 Tryz.sizeOf76 rfl rfl rfl rfl rfl) ?_
        refine w_ (p_lit Tryz.runUnderlying22 Tryz.sizeOf76 Tryz.zeroValue76 rfl rfl rfl rfl rfl rfl rfl rfl rfl rfl) ?_
        refine w_ (p_call Tryz.func201 rfl rfl rfl rfl (d_cert_Match ((hl _ hm1).1) ((hl _ hm2).1) ((hl _ hm1).2) ((hl _ hm2).2) (hq)) rfl) ?_
        refine w_ (p_move rfl rfl) ?_
        refine w_ (p_extract rfl rfl rfl) ?_
        refine w_ (p_extract rfl rfl rfl) ?_
        refine a_alloc Tryz.zeroValue166 rfl rfl fun g2 => ?_
        refine a_storeOw 0 Tryz.sizeOf166 rfl rfl rfl rfl rfl rfl rfl ?_
        refine w_ (p_assign rfl rfl) ?_
        refine aw_nil ?_
        refine ac_reg ?_
        refine w_ (p_move rfl rfl) ?_
        refine w_ (p_loadOw 0 Tryz.isAgg166 Tryz.sizeOf166 rfl rfl rfl rfl rfl) ?_
        refine w_ (p_lit Tryz.runUnderlying48 Tryz.sizeOf166 Tryz.zeroValue166 rfl rfl rfl rfl rfl rfl rfl rfl rfl rfl) ?_
        refine a_append (ls2 := ((mks q ((play q l).2.take (i + 1))).map ofCt)) (m2 := i + 1) 2 Tryz.runUnderlying48 Tryz.runUnderlying48 Tryz.typeInfo166 rfl rfl Tryz.sizeOf166 Tryz.zeroValue166 rfl rfl rfl rfl rfl rfl rfl (by rw [List.length_map]; omega) (one_w rfl) (one_f rfl) (by show _ + 1 < _; omega) (by rw [List.take_of_length_le (by rw [List.length_map]; omega), mks_take hm]; exact snoc_map ofCt _ _) (rfl) fun r3 => ?_
        refine w_ (p_assign rfl rfl) ?_
        refine aw_nil ?_
        refine ac_reg ?_
        refine w_ (p_add (r := ((i + 1 : Nat) : Int)) rfl rfl (i64_is (by omega) (by omega)) rfl) ?_
        refine w_ (p_move rfl rfl) ?_
        refine aw_pick [0, 3, 5, 27, 28, 29] rfl ?_
        refine aw_drop 1 rfl ?_
        refine aw_drop 1 rfl ?_
        refine aw_nil ?_
        refine ⟨_, ?_, i + 1, r3, by omega, rfl, rfl, rfl⟩
        omega
      · have hi : (play q l).2.take i = (play q l).2 := List.take_of_length_le (by omega)
        have hml : (mks q (play q l).2).length = (play q l).2.length := by unfold mks; rw [List.length_map]
        refine ac_pub (L2 := _) 0 [5] rfl (allAre1 rfl) (by rw [List.length_map, hi]; omega) (by rw [List.length_map, hi]; omega) rfl ?_
        refine ac_slotEq 5 (y := .one (cts (mks q (play q l).2))) rfl (by rw [hi]; rfl) ?_
        refine ac_seq ?_
        refine ac_reg ?_
        refine w_ (p_cmp rfl rfl rfl rfl) ?_
        refine aw_nil ?_
        refine ac_seq ?_
        refine ac_f rfl (decide_eq_false (by omega)) ?_
        refine ac_exit ?_
        repeat refine seqQ_exit ?_
        refine blkQ_here ?_
        refine ac_seq ?_
        refine ac_reg ?_
        refine w_ (p_move rfl rfl) ?_
        refine w_ (p_assign rfl rfl) ?_
        refine aw_nil ?_
        refine ac_ret ?_
        exact ⟨_, [], _, rvs_1 Tryz.results121 (rv_tmp rfl rfl), rfl, ⟨rfl, rfl⟩⟩

theorem mks_len (q : Rat) (gs : List (Pt × Pt)) : (mks q gs).length = gs.length := by simp [mks]

set_option maxRecDepth 20000 in
theorem d_tourney_New {b1 b2 : Bool} {l1 l2 : List Nat} {n d : Int} {zs : List (List LV)} {qs : List Pt} (h1 : IsInt (.bool b1) (u32r l1) n) (h2 : IsInt (.bool b2) (u32r l2) d) (hn : isz n ≤ 4294967295) (hd : isz d ≤ 4294967295) (hq : Qb (ratOf n d)) (hz : IsPts 4294967294 1073741824 zs qs) (hg : GoodP qs) (hl : qs.length ≤ 6) (he : (newL [] qs).2 = 0) : DoesB Tryz.prog 49 [.agg [.bool b1, u32r l1, .bool b2, u32r l2], .one (.row zs)] [] fun R B => ∃ g, R = .tup [.one (.ow g 0), .one (.int .i64 0)] ∧ B = [.blk g 122 [.bool true, pl ([-((ratOf n d)).num, (((ratOf n d)).den : Int)]), sg ((((ratOf n d))).num), mg ((((ratOf n d))).num), sg (((((ratOf n d))).den : Int)), mg (((((ratOf n d))).den : Int)), sg ((((ratOf n d))).num), mg ((((ratOf n d))).num), sg (((((ratOf n d))).den : Int)), mg (((((ratOf n d))).den : Int)), wts ((sortC (mks ((ratOf n d)) (play ((ratOf n d)) ((newL [] qs).1)).2))), .int .i64 0, pts ((newL [] qs).1), pts ((play ((ratOf n d)) ((newL [] qs).1)).1), gms ((play ((ratOf n d)) ((newL [] qs).1)).2)]] := by
  refine does_ (n := 32) Tryz.func49 rfl Tryz.ntmps49 rfl ?_
  have hgl : GoodP (newL [] qs).1 := fun a ha => hg a ((newL_mem qs [] ha).resolve_right (by simp))
  have hln := newL_len qs
  have hpg := play_games (ratOf n d) (newL [] qs).1.length (newL [] qs).1 (Nat.le_refl _)
  · skip
    refine ac_seq ?_
    refine ac_reg ?_
    refine w_ (p_boxS rfl rfl rfl rfl) ?_
    refine w_ (p_assign rfl rfl) ?_
    refine w_ (p_assign rfl rfl) ?_
    refine aw_nil ?_
    refine ac_seq ?_
    refine ac_reg ?_
    refine w_ (p_move rfl rfl) ?_
    refine w_ (p_call Tryz.func114 rfl rfl rfl rfl (d_crowd_New hz hl) rfl) ?_
    refine w_ (p_move rfl rfl) ?_
    refine w_ (p_extract rfl rfl rfl) ?_
    refine w_ (p_extract rfl rfl rfl) ?_
    refine a_alloc Tryz.zeroValue106 rfl rfl fun g1 => ?_
    refine a_storeOw 0 Tryz.sizeOf106 rfl rfl rfl rfl rfl rfl rfl ?_
    refine w_ (p_assign rfl rfl) ?_
    refine aw_nil ?_
    refine ac_seq ?_
    refine ac_seq ?_
    refine ac_reg ?_
    refine w_ (p_move rfl rfl) ?_
    refine w_ (p_cmp rfl rfl rfl rfl) ?_
    refine aw_nil ?_
    refine ac_f rfl (decide_eq_false (fun h => h he)) ?_
    refine ac_skip ?_
    refine ac_seq ?_
    refine ac_reg ?_
    refine w_ (p_loadOw 0 Tryz.isAgg106 Tryz.sizeOf106 rfl rfl rfl rfl rfl) ?_
    refine w_ (p_build (bd_122) rfl rfl rfl rfl) ?_
    refine a_box rfl rfl rfl fun g2 => ?_
    refine w_ (p_assign rfl rfl) ?_
    refine aw_nil ?_
    refine ac_seq ?_
    refine ac_reg ?_
    refine w_ (p_loadSh Tryz.isAgg57 Tryz.sizeOf57 rfl rfl rfl rfl) ?_
    refine w_ (p_call Tryz.func115 rfl rfl rfl rfl (d_alg_Of h1 h2 hn hd (hq.mono (by omega))) rfl) ?_
    refine a_alloc Tryz.zeroValue59 rfl rfl fun g3 => ?_
    refine a_storeOw 0 Tryz.sizeOf59 rfl rfl rfl rfl rfl rfl rfl ?_
    refine aw_nil ?_
    refine ac_seq ?_
    refine ac_drawM mixed_ 7 [23, 24, 25, 26, 27, 28, 29] [[], [0], [1], [], [], [], [4, 5]] [.one (.ow g2 0), .one (.ow g2 0), .one (.ow g2 0), .agg [pl ([-((ratOf n d)).num, (((ratOf n d)).den : Int)]), sg ((((ratOf n d))).num), mg ((((ratOf n d))).num), sg (((((ratOf n d))).den : Int)), mg (((((ratOf n d))).den : Int)), sg ((((ratOf n d))).num), mg ((((ratOf n d))).num), sg (((((ratOf n d))).den : Int)), mg (((((ratOf n d))).den : Int))], .one (.ow g2 0), .agg [pl ([-((ratOf n d)).num, (((ratOf n d)).den : Int)]), sg ((((ratOf n d))).num), mg ((((ratOf n d))).num), sg (((((ratOf n d))).den : Int)), mg (((((ratOf n d))).den : Int)), sg ((((ratOf n d))).num), mg ((((ratOf n d))).num), sg (((((ratOf n d))).den : Int)), mg (((((ratOf n d))).den : Int))], .un] 6 (fun u B => u = .one (cts ((mks ((ratOf n d)) (play ((ratOf n d)) ((newL [] qs).1)).2))) ∧ B = [.blk g2 122 [.bool false, .nils, .bool false, .nils, .bool false, .nils, .bool false, .nils, .bool false, .nils, .nils, .int .i64 0, pts ((newL [] qs).1), pts ((play ((ratOf n d)) ((newL [] qs).1)).1), gms ((play ((ratOf n d)) ((newL [] qs).1)).2)], .blk g3 59 [pl ([-((ratOf n d)).num, (((ratOf n d)).den : Int)]), sg ((((ratOf n d))).num), mg ((((ratOf n d))).num), sg (((((ratOf n d))).den : Int)), mg (((((ratOf n d))).den : Int)), sg ((((ratOf n d))).num), mg ((((ratOf n d))).num), sg (((((ratOf n d))).den : Int)), mg (((((ratOf n d))).den : Int))], .blk g1 106 [pts ((newL [] qs).1)]]) rfl rfl rfl rfl ⟨p_move rfl rfl, p_nilCheck rfl rfl rfl, p_fieldOw fa_122_0 rfl rfl, p_loadOw 0 Tryz.isAgg59 Tryz.sizeOf59 rfl rfl rfl rfl rfl, p_move rfl rfl, p_loadOw 0 Tryz.isAgg59 Tryz.sizeOf59 rfl rfl rfl rfl rfl, ?_, trivial⟩ ?_ ?_
    · refine am_of_aw fun N k_ => ?_
      refine aw_front 1 rfl ?_
      refine a_calls (Bin := [.blk g2 122 [.bool false, .nils, .bool false, .nils, .bool false, .nils, .bool false, .nils, .bool false, .nils, .nils, .int .i64 0, pts ((newL [] qs).1), .nils, .nils]]) Tryz.func121 rfl rfl rfl rfl (d_tourney_build hq hgl (by omega)) rfl fun r_ B_ hr_ => ?_
      obtain ⟨rfl, rfl⟩ := hr_
      exact aw_nil (k_ _ _ ⟨rfl, rfl⟩)
    · rintro u_ B_ ⟨rfl, rfl⟩
      exact ⟨p_move rfl rfl, p_nilCheck rfl rfl rfl, p_fieldOw fa_122_0 rfl rfl, p_loadOw 1 Tryz.isAgg59 Tryz.sizeOf59 rfl rfl rfl rfl rfl, p_move rfl rfl, p_loadOw 1 Tryz.isAgg59 Tryz.sizeOf59 rfl rfl rfl rfl rfl, trivial, trivial⟩
    · rintro u_ B_ ⟨rfl, rfl⟩
      refine ⟨_, rfl, ?_⟩
      refine aw_blk (ys := [.bool false, .row ([]), .bool false, .row ([]), .bool false, .row ([]), .bool false, .row ([]), .bool false, .row ([]), wts ([]), .int .i64 0, pts ((newL [] qs).1), pts ((play ((ratOf n d)) ((newL [] qs).1)).1), gms ((play ((ratOf n d)) ((newL [] qs).1)).2)]) 0 rfl rfl rfl ?_
      refine a_calls (Bin := [.blk g2 122 [.bool false, .row ([]), .bool false, .row ([]), .bool false, .row ([]), .bool false, .row ([]), .bool false, .row ([]), wts ([]), .int .i64 0, pts ((newL [] qs).1), pts ((play ((ratOf n d)) ((newL [] qs).1)).1), gms ((play ((ratOf n d)) ((newL [] qs).1)).2)]]) Tryz.func116 rfl rfl rfl rfl (d_kin_BeginF (ws := []) (by simp) (mks_pb hgl) (by rw [mks_len]; omega) (hq.mono (by omega))) rfl fun r_ B_ hr_ => ?_
      obtain ⟨rfl, rfl⟩ := hr_
      refine aw_nil ?_
      refine ac_seq ?_
      refine ac_reg ?_
      refine w_ (p_move rfl rfl) ?_
      refine w_ (p_assign rfl rfl) ?_
      refine w_ (p_assign rfl rfl) ?_
      refine aw_nil ?_
      refine ac_ret ?_
      exact ⟨_, [1, 1], _, rvs_2 Tryz.results49 (rv_tmp rfl rfl) (rv_tmp rfl rfl), rfl, _, rfl, rfl⟩

theorem d_tourney_NewE {b1 b2 : Bool} {l1 l2 : List Nat} {n d : Int} {zs : List (List LV)} {qs : List Pt} (h1 : IsInt (.bool b1) (u32r l1) n) (h2 : IsInt (.bool b2) (u32r l2) d) (hn : isz n ≤ 4294967295) (hd : isz d ≤ 4294967295) (hq : Qb (ratOf n d)) (hz : IsPts 4294967294 1073741824 zs qs) (hl : qs.length ≤ 6) (he : (newL [] qs).2 ≠ 0) : Does Tryz.prog 49 [.agg [.bool b1, u32r l1, .bool b2, u32r l2], .one (.row zs)] (.tup [.one (.nilp), .one (.int .i64 ((newL [] qs).2))]) := by
  refine does_ (n := 32) Tryz.func49 rfl Tryz.ntmps49 rfl ?_
  refine ac_seq ?_
  refine ac_reg ?_
  refine w_ (p_boxS rfl rfl rfl rfl) ?_
  refine w_ (p_assign rfl rfl) ?_
  refine w_ (p_assign rfl rfl) ?_
  refine aw_nil ?_
  refine ac_seq ?_
  refine ac_reg ?_
  refine w_ (p_move rfl rfl) ?_
  refine w_ (p_call Tryz.func114 rfl rfl rfl rfl (d_crowd_New hz hl) rfl) ?_
  refine w_ (p_move rfl rfl) ?_
  refine w_ (p_extract rfl rfl rfl) ?_
  refine w_ (p_extract rfl rfl rfl) ?_
  refine a_alloc Tryz.zeroValue106 rfl rfl fun g1 => ?_
  refine a_storeOw 0 Tryz.sizeOf106 rfl rfl rfl rfl rfl rfl rfl ?_
  refine w_ (p_assign rfl rfl) ?_
  refine aw_nil ?_
  refine ac_seq ?_
  refine ac_seq ?_
  refine ac_reg ?_
  refine w_ (p_move rfl rfl) ?_
  refine w_ (p_cmp rfl rfl rfl rfl) ?_
  refine aw_nil ?_
  refine ac_t rfl (decide_eq_true he) ?_
  refine ac_seq ?_
  refine ac_reg ?_
  refine w_ (p_move rfl rfl) ?_
  refine w_ (p_assign rfl rfl) ?_
  refine w_ (p_assign rfl rfl) ?_
  refine aw_nil ?_
  refine ac_ret ?_
  exact retB_2 Tryz.results49 (rv_tmp rfl rfl) (rv_tmp rfl rfl) (rfl)

theorem d_tourney_NewF {b1 b2 : Bool} {l1 l2 : List Nat} {n d : Int} {zs : List (List LV)} {qs : List Pt} (h1 : IsInt (.bool b1) (u32r l1) n) (h2 : IsInt (.bool b2) (u32r l2) d) (hn : isz n ≤ 4294967295) (hd : isz d ≤ 4294967295) (hq : Qb (ratOf n d)) (hz : IsPts 4294967294 1073741824 zs qs) (hl : 6 < qs.length) : Does Tryz.prog 49 [.agg [.bool b1, u32r l1, .bool b2, u32r l2], .one (.row zs)] (.tup [.one (.nilp), .one (.int .i64 9)]) := by
  refine does_ (n := 32) Tryz.func49 rfl Tryz.ntmps49 rfl ?_
  refine ac_seq ?_
  refine ac_reg ?_
  refine w_ (p_boxS rfl rfl rfl rfl) ?_
  refine w_ (p_assign rfl rfl) ?_
  refine w_ (p_assign rfl rfl) ?_
  refine aw_nil ?_
  refine ac_seq ?_
  refine ac_reg ?_
  refine w_ (p_move rfl rfl) ?_
  refine w_ (p_call Tryz.func114 rfl rfl rfl rfl (d_crowd_NewFull hz hl) rfl) ?_
  refine w_ (p_move rfl rfl) ?_
  refine w_ (p_extract rfl rfl rfl) ?_
  refine w_ (p_extract rfl rfl rfl) ?_
  refine a_alloc Tryz.zeroValue106 rfl rfl fun g1 => ?_
  refine a_storeOw 0 Tryz.sizeOf106 rfl rfl rfl rfl rfl rfl rfl ?_
  refine w_ (p_assign rfl rfl) ?_
  refine aw_nil ?_
  refine ac_seq ?_
  refine ac_seq ?_
  refine ac_reg ?_
  refine w_ (p_move rfl rfl) ?_
  refine w_ (p_cmp (b := true) rfl rfl rfl rfl) ?_
  refine aw_nil ?_
  refine ac_t rfl (rfl) ?_
  refine ac_seq ?_
  refine ac_reg ?_
  refine w_ (p_move rfl rfl) ?_
  refine w_ (p_assign rfl rfl) ?_
  refine w_ (p_assign rfl rfl) ?_
  refine aw_nil ?_
  refine ac_ret ?_
  exact retB_2 Tryz.results49 (rv_tmp rfl rfl) (rv_tmp rfl rfl) (rfl)

set_option maxRecDepth 20000 in
theorem d_tourney_with {g : Nat} {ev : Int} {ws : List Ct} {q : Rat} {y0 y1 y2 : LV} {l : List Pt} (hq : Qb q) (hg : GoodP l) (hl : l.length ≤ 1000) (hw : ws.length ≤ 1000000) : DoesB Tryz.prog 122 [.one (.ow g 0), .agg [pts l], .one (.int .i64 0)] [.blk g 122 [.bool true, pl ([-q.num, (q.den : Int)]), sg q.num, mg q.num, sg ((q.den : Int)), mg ((q.den : Int)), sg q.num, mg q.num, sg ((q.den : Int)), mg ((q.den : Int)), wts ws, .int .i64 ev, y0, y1, y2]] fun r B => r = .one (.int .i64 0) ∧ B = [.blk g 122 [.bool true, pl ([-q.num, (q.den : Int)]), sg q.num, mg q.num, sg ((q.den : Int)), mg ((q.den : Int)), sg q.num, mg q.num, sg ((q.den : Int)), mg ((q.den : Int)), wts ((sortC (mks q (play q l).2))), .int .i64 ev, pts l, pts ((play q l).1), gms ((play q l).2)]] := by
  refine does_ (n := 27) Tryz.func122 rfl Tryz.ntmps122 rfl ?_
  have hpg := play_games q l.length l (Nat.le_refl _)
  · skip
    refine ac_seq ?_
    refine ac_reg ?_
    refine w_ (p_boxS rfl rfl rfl rfl) ?_
    refine w_ (p_assign rfl rfl) ?_
    refine aw_nil ?_
    refine ac_seq ?_
    refine ac_seq ?_
    refine ac_reg ?_
    refine w_ (p_move rfl rfl) ?_
    refine w_ (p_cmp (b := false) rfl rfl rfl rfl) ?_
    refine aw_nil ?_
    refine ac_f rfl (rfl) ?_
    refine ac_skip ?_
    refine ac_seq ?_
    refine ac_reg ?_
    refine w_ (p_move rfl rfl) ?_
    refine w_ (p_loadSh Tryz.isAgg106 Tryz.sizeOf106 rfl rfl rfl rfl) ?_
    refine w_ (p_nilCheck rfl rfl rfl) ?_
    refine w_ (p_fieldOw fa_122_1 rfl rfl) ?_
    refine a_storeOw 0 Tryz.sizeOf106 rfl rfl rfl rfl rfl rfl rfl ?_
    refine aw_nil ?_
    refine ac_seq ?_
    refine ac_reg ?_
    refine w_ (p_move rfl rfl) ?_
    refine w_ (p_nilCheck rfl rfl rfl) ?_
    refine w_ (p_fieldOw fa_122_0 rfl rfl) ?_
    refine a_calls (Bin := [.blk g 122 [.bool true, pl ([-q.num, (q.den : Int)]), sg q.num, mg q.num, sg ((q.den : Int)), mg ((q.den : Int)), sg q.num, mg q.num, sg ((q.den : Int)), mg ((q.den : Int)), wts ws, .int .i64 ev, pts l, y1, y2]]) Tryz.func202 rfl rfl rfl rfl (d_kin_Now (hq.mono (by omega))) rfl fun r_ B_ hr_ => ?_
    obtain ⟨rfl, rfl⟩ := hr_
    refine a_alloc Tryz.zeroValue59 rfl rfl fun g1 => ?_
    refine a_storeOw 0 Tryz.sizeOf59 rfl rfl rfl rfl rfl rfl rfl ?_
    refine aw_nil ?_
    refine ac_seq ?_
    refine ac_drawM mixed_ 7 [19, 20, 21, 22, 23, 24, 25] [[], [0], [1], [], [], [], [4, 5]] [.one (.ow g 0), .one (.ow g 0), .one (.ow g 0), .agg [pl ([-q.num, (q.den : Int)]), sg q.num, mg q.num, sg ((q.den : Int)), mg ((q.den : Int)), sg q.num, mg q.num, sg ((q.den : Int)), mg ((q.den : Int))], .one (.ow g 0), .agg [pl ([-q.num, (q.den : Int)]), sg q.num, mg q.num, sg ((q.den : Int)), mg ((q.den : Int)), sg q.num, mg q.num, sg ((q.den : Int)), mg ((q.den : Int))], .un] 6 (fun u B => u = .one (cts ((mks q (play q l).2))) ∧ B = [.blk g 122 [.bool true, pl ([-q.num, (q.den : Int)]), sg q.num, mg q.num, sg ((q.den : Int)), mg ((q.den : Int)), sg q.num, mg q.num, sg ((q.den : Int)), mg ((q.den : Int)), wts ws, .int .i64 ev, pts l, pts ((play q l).1), gms ((play q l).2)], .blk g1 59 [pl ([-q.num, (q.den : Int)]), sg q.num, mg q.num, sg ((q.den : Int)), mg ((q.den : Int)), sg q.num, mg q.num, sg ((q.den : Int)), mg ((q.den : Int))]]) rfl rfl rfl rfl ⟨p_move rfl rfl, p_nilCheck rfl rfl rfl, p_fieldOw fa_122_0 rfl rfl, p_loadOw 0 Tryz.isAgg59 Tryz.sizeOf59 rfl rfl rfl rfl rfl, p_move rfl rfl, p_loadOw 0 Tryz.isAgg59 Tryz.sizeOf59 rfl rfl rfl rfl rfl, ?_, trivial⟩ ?_ ?_
    · refine am_of_aw fun N k_ => ?_
      refine aw_front 1 rfl ?_
      refine a_calls (Bin := [.blk g 122 [.bool true, pl ([-q.num, (q.den : Int)]), sg q.num, mg q.num, sg ((q.den : Int)), mg ((q.den : Int)), sg q.num, mg q.num, sg ((q.den : Int)), mg ((q.den : Int)), wts ws, .int .i64 ev, pts l, y1, y2]]) Tryz.func121 rfl rfl rfl rfl (d_tourney_build hq hg hl) rfl fun r_ B_ hr_ => ?_
      obtain ⟨rfl, rfl⟩ := hr_
      exact aw_nil (k_ _ _ ⟨rfl, rfl⟩)
    · rintro u_ B_ ⟨rfl, rfl⟩
      exact ⟨p_move rfl rfl, p_nilCheck rfl rfl rfl, p_fieldOw fa_122_0 rfl rfl, p_loadOw 1 Tryz.isAgg59 Tryz.sizeOf59 rfl rfl rfl rfl rfl, p_move rfl rfl, p_loadOw 1 Tryz.isAgg59 Tryz.sizeOf59 rfl rfl rfl rfl rfl, trivial, trivial⟩
    · rintro u_ B_ ⟨rfl, rfl⟩
      refine ⟨_, rfl, ?_⟩
      refine a_calls (Bin := [.blk g 122 [.bool true, pl ([-q.num, (q.den : Int)]), sg q.num, mg q.num, sg ((q.den : Int)), mg ((q.den : Int)), sg q.num, mg q.num, sg ((q.den : Int)), mg ((q.den : Int)), wts ws, .int .i64 ev, pts l, pts ((play q l).1), gms ((play q l).2)]]) Tryz.func116 rfl rfl rfl rfl (d_kin_BeginT (hq.mono (by omega)) hw (mks_pb hg) (by rw [mks_len]; omega) (hq.mono (by omega))) rfl fun r_ B_ hr_ => ?_
      obtain ⟨rfl, rfl⟩ := hr_
      refine aw_nil ?_
      refine ac_seq ?_
      refine ac_reg ?_
      refine w_ (p_assign rfl rfl) ?_
      refine aw_nil ?_
      refine ac_ret ?_
      exact ⟨_, [1], _, rvs_1 Tryz.results122 (rv_tmp rfl rfl), rfl, ⟨rfl, rfl⟩⟩

theorem d_tourney_withE {g T : Nat} {ys : List LV} {l : List Pt} {e : Int} (he : e ≠ 0) : DoesB Tryz.prog 122 [.one (.ow g 0), .agg [pts l], .one (.int .i64 e)] [.blk g T (ys)] fun r B => r = .one (.int .i64 e) ∧ B = [.blk g T (ys)] := by
  refine does_ (n := 27) Tryz.func122 rfl Tryz.ntmps122 rfl ?_
  refine ac_seq ?_
  refine ac_reg ?_
  refine w_ (p_boxS rfl rfl rfl rfl) ?_
  refine w_ (p_assign rfl rfl) ?_
  refine aw_nil ?_
  refine ac_seq ?_
  refine ac_seq ?_
  refine ac_reg ?_
  refine w_ (p_move rfl rfl) ?_
  refine w_ (p_cmp rfl rfl rfl rfl) ?_
  refine aw_nil ?_
  refine ac_t rfl (decide_eq_true he) ?_
  refine ac_seq ?_
  refine ac_reg ?_
  refine w_ (p_move rfl rfl) ?_
  refine w_ (p_assign rfl rfl) ?_
  refine aw_nil ?_
  refine ac_ret ?_
  exact ⟨_, [], _, rvs_1 Tryz.results122 (rv_tmp rfl rfl), rfl, ⟨rfl, rfl⟩⟩

set_option maxRecDepth 20000 in
theorem d_tourney_Put {g : Nat} {ev : Int} {ws : List Ct} {q : Rat} {y1 y2 : LV} {lx ly : List (List LV)} {px py : List Int} {b : Bool} {ll : List Nat} {d id : Int} {l : List Pt} (hx : IsInts lx px) (hy : IsInts ly py) (hd : IsInt (.bool b) (u32r ll) d) (hk : Cs 4294967294 1073741824 (Crv.mk px py d)) (hq : Qb q) (hg : GoodP l) (hl : l.length ≤ 999) (hw : ws.length ≤ 1000000) (hp : Nml (Pt.mk (Crv.norm (Crv.mk px py d)) id).c ∧ Cb (Pt.mk (Crv.norm (Crv.mk px py d)) id).c) (he : putE l (Pt.mk (Crv.norm (Crv.mk px py d)) id) = 0) : DoesB Tryz.prog 50 [.one (.ow g 0), .agg [.row lx, .row ly, .bool b, u32r ll, .int .i64 id]] [.blk g 122 [.bool true, pl ([-q.num, (q.den : Int)]), sg q.num, mg q.num, sg ((q.den : Int)), mg ((q.den : Int)), sg q.num, mg q.num, sg ((q.den : Int)), mg ((q.den : Int)), wts ws, .int .i64 ev, pts l, y1, y2]] fun r B => r = .one (.int .i64 0) ∧ B = [.blk g 122 [.bool true, pl ([-q.num, (q.den : Int)]), sg q.num, mg q.num, sg ((q.den : Int)), mg ((q.den : Int)), sg q.num, mg q.num, sg ((q.den : Int)), mg ((q.den : Int)), wts ((sortC (mks q (play q ((put l (Pt.mk (Crv.norm (Crv.mk px py d)) id)))).2))), .int .i64 ev, pts ((put l (Pt.mk (Crv.norm (Crv.mk px py d)) id))), pts ((play q ((put l (Pt.mk (Crv.norm (Crv.mk px py d)) id)))).1), gms ((play q ((put l (Pt.mk (Crv.norm (Crv.mk px py d)) id)))).2)]] := by
  refine does_ (n := 15) Tryz.func50 rfl Tryz.ntmps50 rfl ?_
  refine ac_seq ?_
  refine ac_reg ?_
  refine w_ (p_boxS rfl rfl rfl rfl) ?_
  refine w_ (p_assign rfl rfl) ?_
  refine aw_nil ?_
  refine ac_seq ?_
  refine ac_draw mixed_ 9 [5, 6, 7, 8, 9, 10, 11, 12, 13] [[], [], [1], [2], [3], [], [4, 5], [6], [6]] [.one (.ow g 0), .one (.ow g 0), .one (.ow g 0), .one (.ow g 12), .agg [pts l], .agg [.row lx, .row ly, .bool b, u32r ll, .int .i64 id], .tup [.agg [pts ((if putE l (Pt.mk (Crv.norm (Crv.mk px py d)) id) = 0 then put l (Pt.mk (Crv.norm (Crv.mk px py d)) id) else l))], .one (.int .i64 (putE l (Pt.mk (Crv.norm (Crv.mk px py d)) id)))], .agg [pts ((if putE l (Pt.mk (Crv.norm (Crv.mk px py d)) id) = 0 then put l (Pt.mk (Crv.norm (Crv.mk px py d)) id) else l))], .one (.int .i64 (putE l (Pt.mk (Crv.norm (Crv.mk px py d)) id)))] rfl rfl rfl ⟨p_move rfl rfl, p_move rfl rfl, p_nilCheck rfl rfl rfl, p_fieldOw fa_122_1 rfl rfl, p_loadOw 0 Tryz.isAgg106 Tryz.sizeOf106 rfl rfl rfl rfl rfl, p_loadSh Tryz.isAgg76 Tryz.sizeOf76 rfl rfl rfl rfl, p_call Tryz.func119 rfl rfl rfl rfl (d_crowd_Put hx hy hd (hk) (by omega)) rfl, p_extract rfl rfl rfl, p_extract rfl rfl rfl, trivial⟩ rfl ?_
  refine aw_slotEq 12 (y := .agg [pts (put l (Pt.mk (Crv.norm (Crv.mk px py d)) id))]) rfl (by rw [if_pos he]) ?_
  refine aw_slotEq 13 (y := .one (.int .i64 0)) rfl (by rw [he]) ?_
  refine a_calls (Bin := [.blk g 122 [.bool true, pl ([-q.num, (q.den : Int)]), sg q.num, mg q.num, sg ((q.den : Int)), mg ((q.den : Int)), sg q.num, mg q.num, sg ((q.den : Int)), mg ((q.den : Int)), wts ws, .int .i64 ev, pts l, y1, y2]]) Tryz.func122 rfl rfl rfl rfl (d_tourney_with hq (fun x hx_ => (put_mem hx_).elim (fun e => e ▸ hp) (hg x)) (by rw [put_len]; omega) hw) rfl fun r_ B_ hr_ => ?_
  obtain ⟨rfl, rfl⟩ := hr_
  refine w_ (p_assign rfl rfl) ?_
  refine aw_nil ?_
  refine ac_ret ?_
  exact ⟨_, [], _, rvs_1 Tryz.results50 (rv_tmp rfl rfl), rfl, ⟨rfl, rfl⟩⟩

set_option maxRecDepth 20000 in
theorem d_tourney_PutE {g : Nat} {ev : Int} {ws : List Ct} {q : Rat} {y1 y2 : LV} {lx ly : List (List LV)} {px py : List Int} {b : Bool} {ll : List Nat} {d id : Int} {l : List Pt} (hx : IsInts lx px) (hy : IsInts ly py) (hd : IsInt (.bool b) (u32r ll) d) (hk : Cs 4294967294 1073741824 (Crv.mk px py d)) (hl : l.length ≤ 999) (he : putE l (Pt.mk (Crv.norm (Crv.mk px py d)) id) ≠ 0) : DoesB Tryz.prog 50 [.one (.ow g 0), .agg [.row lx, .row ly, .bool b, u32r ll, .int .i64 id]] [.blk g 122 [.bool true, pl ([-q.num, (q.den : Int)]), sg q.num, mg q.num, sg ((q.den : Int)), mg ((q.den : Int)), sg q.num, mg q.num, sg ((q.den : Int)), mg ((q.den : Int)), wts ws, .int .i64 ev, pts l, y1, y2]] fun r B => r = .one (.int .i64 ((putE l (Pt.mk (Crv.norm (Crv.mk px py d)) id)))) ∧ B = [.blk g 122 [.bool true, pl ([-q.num, (q.den : Int)]), sg q.num, mg q.num, sg ((q.den : Int)), mg ((q.den : Int)), sg q.num, mg q.num, sg ((q.den : Int)), mg ((q.den : Int)), wts ws, .int .i64 ev, pts l, y1, y2]] := by
  refine does_ (n := 15) Tryz.func50 rfl Tryz.ntmps50 rfl ?_
  refine ac_seq ?_
  refine ac_reg ?_
  refine w_ (p_boxS rfl rfl rfl rfl) ?_
  refine w_ (p_assign rfl rfl) ?_
  refine aw_nil ?_
  refine ac_seq ?_
  refine ac_draw mixed_ 9 [5, 6, 7, 8, 9, 10, 11, 12, 13] [[], [], [1], [2], [3], [], [4, 5], [6], [6]] [.one (.ow g 0), .one (.ow g 0), .one (.ow g 0), .one (.ow g 12), .agg [pts l], .agg [.row lx, .row ly, .bool b, u32r ll, .int .i64 id], .tup [.agg [pts ((if putE l (Pt.mk (Crv.norm (Crv.mk px py d)) id) = 0 then put l (Pt.mk (Crv.norm (Crv.mk px py d)) id) else l))], .one (.int .i64 (putE l (Pt.mk (Crv.norm (Crv.mk px py d)) id)))], .agg [pts ((if putE l (Pt.mk (Crv.norm (Crv.mk px py d)) id) = 0 then put l (Pt.mk (Crv.norm (Crv.mk px py d)) id) else l))], .one (.int .i64 (putE l (Pt.mk (Crv.norm (Crv.mk px py d)) id)))] rfl rfl rfl ⟨p_move rfl rfl, p_move rfl rfl, p_nilCheck rfl rfl rfl, p_fieldOw fa_122_1 rfl rfl, p_loadOw 0 Tryz.isAgg106 Tryz.sizeOf106 rfl rfl rfl rfl rfl, p_loadSh Tryz.isAgg76 Tryz.sizeOf76 rfl rfl rfl rfl, p_call Tryz.func119 rfl rfl rfl rfl (d_crowd_Put hx hy hd (hk) (by omega)) rfl, p_extract rfl rfl rfl, p_extract rfl rfl rfl, trivial⟩ rfl ?_
  refine a_calls (Bin := [.blk g 122 [.bool true, pl ([-q.num, (q.den : Int)]), sg q.num, mg q.num, sg ((q.den : Int)), mg ((q.den : Int)), sg q.num, mg q.num, sg ((q.den : Int)), mg ((q.den : Int)), wts ws, .int .i64 ev, pts l, y1, y2]]) Tryz.func122 rfl rfl rfl rfl (d_tourney_withE he) rfl fun r_ B_ hr_ => ?_
  obtain ⟨rfl, rfl⟩ := hr_
  refine w_ (p_assign rfl rfl) ?_
  refine aw_nil ?_
  refine ac_ret ?_
  exact ⟨_, [], _, rvs_1 Tryz.results50 (rv_tmp rfl rfl), rfl, ⟨rfl, rfl⟩⟩

set_option maxRecDepth 20000 in
theorem d_tourney_Points {g : Nat} {c0 c1 c2 c3 c4 c5 c6 c7 c8 c9 c10 c11 y1 y2 : LV} {l : List Pt} (hok : ∀ p ∈ l, PtOk 4294967294 1073741824 p) (hl : l.length < 1073741824) : DoesB Tryz.prog 51 [.one (.ow g 0)] [.blk g 122 [c0, c1, c2, c3, c4, c5, c6, c7, c8, c9, c10, c11, pts l, y1, y2]] fun r B => r = .one (pts l) ∧ B = [.blk g 122 [c0, c1, c2, c3, c4, c5, c6, c7, c8, c9, c10, c11, pts l, y1, y2]] := by
  refine does_ (n := 8) Tryz.func51 rfl Tryz.ntmps51 rfl ?_
  refine ac_seq ?_
  refine ac_reg ?_
  refine w_ (p_assign rfl rfl) ?_
  refine aw_nil ?_
  refine ac_seq ?_
  refine ac_reg ?_
  refine w_ (p_move rfl rfl) ?_
  refine w_ (p_nilCheck rfl rfl rfl) ?_
  refine w_ (p_fieldOw fa_122_1 rfl rfl) ?_
  refine w_ (p_loadOw 0 Tryz.isAgg106 Tryz.sizeOf106 rfl rfl rfl rfl rfl) ?_
  refine w_ (p_call Tryz.func120 rfl rfl rfl rfl (d_crowd_All (hok) (hl)) rfl) ?_
  refine w_ (p_assign rfl rfl) ?_
  refine aw_nil ?_
  refine ac_ret ?_
  exact ⟨_, [], _, rvs_1 Tryz.results51 (rv_tmp rfl rfl), rfl, ⟨rfl, rfl⟩⟩

set_option maxRecDepth 20000 in
theorem d_tourney_Winner {g : Nat} {c0 c1 c2 c3 c4 c5 c6 c7 c8 c9 c10 c11 y0 y2 : LV} {w : Pt} : DoesB Tryz.prog 43 [.one (.ow g 0)] [.blk g 122 [c0, c1, c2, c3, c4, c5, c6, c7, c8, c9, c10, c11, y0, pts ([w]), y2]] fun r B => r = .tup [.one (.int .i64 w.id), .one (.bool true)] ∧ B = [.blk g 122 [c0, c1, c2, c3, c4, c5, c6, c7, c8, c9, c10, c11, y0, pts ([w]), y2]] := by
  refine does_ (n := 17) Tryz.func43 rfl Tryz.ntmps43 rfl ?_
  refine ac_seq ?_
  refine ac_reg ?_
  refine w_ (p_assign rfl rfl) ?_
  refine w_ (p_assign rfl rfl) ?_
  refine aw_nil ?_
  refine ac_seq ?_
  refine ac_seq ?_
  refine ac_reg ?_
  refine w_ (p_move rfl rfl) ?_
  refine w_ (p_nilCheck rfl rfl rfl) ?_
  refine w_ (p_fieldOw fa_122_2 rfl rfl) ?_
  refine w_ (p_loadOw 0 Tryz.isAgg22 Tryz.sizeOf22 rfl rfl rfl rfl rfl) ?_
  refine w_ (p_len (m := ([w]).length) Tryz.runUnderlying22 rfl (rlen_pts _) rfl) ?_
  refine w_ (p_cmp rfl rfl rfl rfl) ?_
  refine aw_nil ?_
  refine ac_f rfl (rfl) ?_
  refine ac_skip ?_
  refine ac_seq ?_
  refine ac_reg ?_
  refine w_ (p_move rfl rfl) ?_
  refine w_ (p_nilCheck rfl rfl rfl) ?_
  refine w_ (p_fieldOw fa_122_2 rfl rfl) ?_
  refine w_ (p_loadOw 0 Tryz.isAgg22 Tryz.sizeOf22 rfl rfl rfl rfl rfl) ?_
  refine w_ (p_index (0) Tryz.runUnderlying22 Tryz.sizeOf76 rfl rfl (rfl) (map_get rfl) rfl rfl) ?_
  refine w_ (p_fieldSh fa_76_1 rfl rfl rfl) ?_
  refine w_ (p_loadSh Tryz.isAgg3 Tryz.sizeOf3 rfl rfl rfl rfl) ?_
  refine w_ (p_assign rfl rfl) ?_
  refine w_ (p_assign rfl rfl) ?_
  refine aw_nil ?_
  refine ac_ret ?_
  exact ⟨_, [], _, rvs_2 Tryz.results43 (rv_tmp rfl rfl) (rv_tmp rfl rfl), rfl, ⟨rfl, rfl⟩⟩

end Orr

namespace Orr
open Go Go.Proofs
theorem new_one (p : Pt) : newL [] [p] = ([p], 0) := by simp [newL, putE, has, pos, put]
theorem d_new_one {p : Pt} (hp : Nml p.c ∧ Cb p.c) : DoesB Tryz.prog 49 [.agg [.bool false, .row [], .bool false, .row []], .one (.row [ofPt p])] [] fun R B => ∃ g, R = .tup [.one (.ow g 0), .one (.int .i64 0)] ∧ B = [.blk g 122 [.bool true, pl ([-((ratOf 0 0)).num, (((ratOf 0 0)).den : Int)]), sg ((((ratOf 0 0))).num), mg ((((ratOf 0 0))).num), sg (((((ratOf 0 0))).den : Int)), mg (((((ratOf 0 0))).den : Int)), sg ((((ratOf 0 0))).num), mg ((((ratOf 0 0))).num), sg (((((ratOf 0 0))).den : Int)), mg (((((ratOf 0 0))).den : Int)), wts ([]), .int .i64 0, pts ([p]), pts ([p]), gms ([])]] := by
  have h := d_tourney_New (l1 := []) (l2 := []) (zs := [ofPt p]) (qs := [p]) isInt_zero isInt_zero (by decide) (by decide) (qs_0.mono (by omega)) (isPts_n (l := [p]) (by simp only [List.mem_singleton]; rintro x rfl; exact ⟨hp.1, hp.2.mono (by omega) (by omega)⟩)) (by simp only [GoodP, List.mem_singleton]; rintro x rfl; exact hp) (show 1 ≤ 6 by decide) (by rw [new_one])
  rw [new_one, play_few _ (by show 1 < 2; omega)] at h
  exact h

set_option maxRecDepth 20000 in
theorem d_law19_wakes  : Does Tryz.prog 44 [] (.one (.bool true)) := by
  refine does_ (n := 37) Tryz.func44 rfl Tryz.ntmps44 rfl ?_
  refine ac_seq ?_
  refine ac_reg ?_
  refine w_ (p_assign rfl rfl) ?_
  refine aw_nil ?_
  refine ac_seq ?_
  refine ac_reg ?_
  refine w_ (p_build (bd_57) rfl rfl rfl rfl) ?_
  refine w_ (p_call Tryz.func45 rfl rfl rfl rfl (d_curve_Still (by decide) (by decide)) rfl) ?_
  refine w_ (p_build (bd_76) rfl rfl rfl rfl) ?_
  refine w_ (p_lit Tryz.runUnderlying22 Tryz.sizeOf76 Tryz.zeroValue76 rfl rfl rfl rfl rfl rfl rfl rfl rfl rfl) ?_
  refine a_calls (Bin := []) Tryz.func49 rfl rfl rfl rfl (d_new_one (p := (Pt.mk (still 3 4) 7)) (good_still (by decide) (by decide))) rfl fun r_ B_ hr_ => ?_
  obtain ⟨g, rfl, rfl⟩ := hr_
  refine w_ (p_move rfl rfl) ?_
  refine w_ (p_extract rfl rfl rfl) ?_
  refine w_ (p_extract rfl rfl rfl) ?_
  refine w_ (p_assign rfl rfl) ?_
  refine w_ (p_assign rfl rfl) ?_
  refine aw_nil ?_
  refine ac_seq ?_
  refine ac_seq ?_
  refine ac_reg ?_
  refine w_ (p_move rfl rfl) ?_
  refine w_ (p_cmp (b := false) rfl rfl rfl rfl) ?_
  refine w_ (p_move rfl rfl) ?_
  refine w_ ((p_grun rfl rfl (rfl) (p_move rfl rfl))) ?_
  refine w_ ((p_grun rfl rfl (rfl) (p_eqNil Tryz.runUnderlying110 rfl rfl rfl rfl rfl))) ?_
  refine w_ (p_pickF rfl (rfl) rfl rfl) ?_
  refine aw_nil ?_
  refine ac_f rfl (rfl) ?_
  refine ac_skip ?_
  refine ac_seq ?_
  refine ac_reg ?_
  refine w_ (p_move rfl rfl) ?_
  refine a_calls (Bin := [.blk g 122 [.bool true, pl ([-((ratOf 0 0)).num, (((ratOf 0 0)).den : Int)]), sg ((((ratOf 0 0))).num), mg ((((ratOf 0 0))).num), sg (((((ratOf 0 0))).den : Int)), mg (((((ratOf 0 0))).den : Int)), sg ((((ratOf 0 0))).num), mg ((((ratOf 0 0))).num), sg (((((ratOf 0 0))).den : Int)), mg (((((ratOf 0 0))).den : Int)), wts ([]), .int .i64 0, pts ([(Pt.mk (still 3 4) 7)]), pts ([(Pt.mk (still 3 4) 7)]), gms ([])]]) Tryz.func43 rfl rfl rfl rfl (d_tourney_Winner (w := (Pt.mk (still 3 4) 7))) rfl fun r_ B_ hr_ => ?_
  obtain ⟨rfl, rfl⟩ := hr_
  refine w_ (p_move rfl rfl) ?_
  refine w_ (p_extract rfl rfl rfl) ?_
  refine w_ (p_extract rfl rfl rfl) ?_
  refine w_ (p_assign rfl rfl) ?_
  refine w_ (p_assign rfl rfl) ?_
  refine aw_nil ?_
  refine ac_seq ?_
  refine ac_reg ?_
  refine w_ (p_move rfl rfl) ?_
  refine w_ (p_move rfl rfl) ?_
  refine w_ ((p_grun rfl rfl (rfl) (p_move rfl rfl))) ?_
  refine w_ ((p_grun rfl rfl (rfl) (p_cmp (b := true) rfl rfl rfl rfl))) ?_
  refine w_ (p_pickT rfl (rfl) rfl rfl) ?_
  refine w_ (p_move rfl rfl) ?_
  refine w_ ((p_grun rfl rfl (rfl) (p_move rfl rfl))) ?_
  refine w_ ((p_grun rfl rfl (rfl) (p_nilCheck rfl rfl rfl))) ?_
  refine w_ ((p_grun rfl rfl (rfl) (p_fieldOw fa_122_0 rfl rfl))) ?_
  refine aw_grun rfl rfl (rfl) ?_
  refine a_calls (Bin := [.blk g 122 [.bool true, pl ([-((ratOf 0 0)).num, (((ratOf 0 0)).den : Int)]), sg ((((ratOf 0 0))).num), mg ((((ratOf 0 0))).num), sg (((((ratOf 0 0))).den : Int)), mg (((((ratOf 0 0))).den : Int)), sg ((((ratOf 0 0))).num), mg ((((ratOf 0 0))).num), sg (((((ratOf 0 0))).den : Int)), mg (((((ratOf 0 0))).den : Int)), wts ([]), .int .i64 0, pts ([(Pt.mk (still 3 4) 7)]), pts ([(Pt.mk (still 3 4) 7)]), gms ([])]]) Tryz.func40 rfl rfl rfl rfl (d_kin_Certs (ws := []) (by simp) (by simp)) rfl fun r_ B_ hr_ => ?_
  obtain ⟨rfl, rfl⟩ := hr_
  refine w_ ((p_grun rfl rfl (rfl) (p_len (m := ([]).length) Tryz.runUnderlying48 rfl (rlen_cts _) rfl))) ?_
  refine w_ ((p_grun rfl rfl (rfl) (p_cmp rfl rfl rfl rfl))) ?_
  refine w_ (p_pickT rfl (rfl) rfl rfl) ?_
  refine w_ (p_assign rfl rfl) ?_
  refine aw_nil ?_
  refine ac_ret ?_
  exact retB_1 Tryz.results44 (rv_tmp rfl rfl) (rfl)

set_option maxRecDepth 20000 in
theorem d_law19_News {zs : List (List LV)} {n : Int} (hz : Named zs) (hn : -9223372036854775808 ≤ n ∧ n ≤ 9223372036854775807) : Does Tryz.prog 10 [.one (.row zs), .one (.int .i64 n)] (.one (.bool true)) := by
  refine does_ (n := 141) Tryz.func10 rfl Tryz.ntmps10 rfl ?_
  obtain ⟨N, hN, hN8⟩ : ∃ N : Nat, n % 9 = (N : Int) ∧ N ≤ 8 := ⟨(n % 9).toNat, by omega, by omega⟩
  · skip
    refine ac_seq ?_
    refine ac_reg ?_
    refine w_ (p_assign rfl rfl) ?_
    refine aw_nil ?_
    refine ac_seq ?_
    refine ac_reg ?_
    refine w_ (p_move rfl rfl) ?_
    refine w_ (p_call Tryz.func18 rfl rfl rfl rfl (d_keep_Within (hn) (by omega)) rfl) ?_
    refine w_ (p_assign rfl rfl) ?_
    refine aw_nil ?_
    refine ac_seq ?_
    refine ac_reg ?_
    refine w_ (p_assign rfl rfl) ?_
    refine aw_nil ?_
    refine ac_cut (fun L B => ∃ i r, i ≤ N ∧ (zs.length ≤ i ∨ i = N) ∧ L = [(1, .one (.int .i64 (((N : Nat) : Int)))), (5, .one (.orow r 5 0 i))] ∧ B = [.row r 76 5 ((npts zs i).map ofPt)]) ?_ ?_
    · skip
      refine ac_seq ?_
      refine ac_reg ?_
      refine w_ (p_assign rfl rfl) ?_
      refine aw_nil ?_
      refine ac_block ?_
      refine ac_slotEq 1 (y := .one (.int .i64 ((N : Nat) : Int))) rfl (by rw [hN]) ?_
      refine ac_ownNil [5] 76 5 rfl (allAre1 rfl) rfl ?_
      refine ac_pick [0, 1, 5, 6] rfl ?_
      refine ac_loop (fun m L B => ∃ i r, i ≤ zs.length ∧ i ≤ N ∧ m = N - i ∧ L = [(0, .one (.row zs)), (1, .one (.int .i64 (((N : Nat) : Int)))), (5, .one (.orow r 5 0 i)), (6, .one (.int .i64 (((i : Nat) : Int))))] ∧ B = [.row r 76 5 ((npts zs i).map ofPt)]) (m := _) ⟨0, none, Nat.zero_le _, Nat.zero_le _, rfl, rfl, rfl⟩ ?_
      rintro m L B ⟨i, r, hp0, hp1, hm, rfl, rfl⟩
      by_cases h1 : i < zs.length
      · by_cases h2 : i < N
        · have hii : i * i ≤ 8 * 8 := Nat.mul_le_mul (by omega) (by omega)
          obtain ⟨x0, x1, x2, x3, id, hze, hid⟩ := hz zs[i] (List.getElem_mem h1)
          have hzi : zs[i]? = some [x0, x1, x2, x3, .int .i64 id] := by rw [List.getElem?_eq_getElem h1, hze]
          have hpt := npt_in h1
          rw [hze] at hpt
          refine ac_seq ?_
          refine ac_seq ?_
          refine ac_reg ?_
          refine w_ (p_move rfl rfl) ?_
          refine w_ (p_move rfl rfl) ?_
          refine w_ (p_len (m := zs.length) Tryz.runUnderlying22 rfl (rfl) rfl) ?_
          refine w_ (p_cmp rfl rfl rfl rfl) ?_
          refine w_ (p_move rfl rfl) ?_
          refine w_ ((p_grun rfl rfl (decide_eq_true (by omega)) (p_move rfl rfl))) ?_
          refine w_ ((p_grun rfl rfl (decide_eq_true (by omega)) (p_move rfl rfl))) ?_
          refine w_ ((p_grun rfl rfl (decide_eq_true (by omega)) (p_cmp rfl rfl rfl rfl))) ?_
          refine w_ (p_pickT rfl (decide_eq_true (by omega)) rfl rfl) ?_
          refine aw_nil ?_
          refine ac_t rfl (decide_eq_true (by omega)) ?_
          refine ac_skip ?_
          refine ac_seq ?_
          refine ac_block ?_
          refine ac_draw mixed_ 14 [26, 27, 28, 29, 30, 31, 32, 33, 34, 35, 36, 37, 38, 39] [[], [], [], [], [2, 3], [1, 4], [], [], [6, 7], [8], [9], [10], [5, 11], [12]] [.one (.orow r 5 0 i), .one (.int .i64 (((i : Nat) : Int))), .one (.int .i64 (((i : Nat) : Int))), .one (.int .i64 (((i : Nat) : Int))), .one (.int .i64 (((i * i : Nat) : Int))), .agg [pl (((still (((i : Nat) : Int)) (((i * i : Nat) : Int)))).x), pl (((still (((i : Nat) : Int)) (((i * i : Nat) : Int)))).y), sg (((still (((i : Nat) : Int)) (((i * i : Nat) : Int)))).d), mg (((still (((i : Nat) : Int)) (((i * i : Nat) : Int)))).d)], .one (.row zs), .one (.int .i64 (((i : Nat) : Int))), .one (.sh [x0, x1, x2, x3, .int .i64 id]), .one (.sh [.int .i64 id]), .one (.int .i64 id), .one (.int .i64 ((id % 40))), .agg [pl (((still (((i : Nat) : Int)) (((i * i : Nat) : Int)))).x), pl (((still (((i : Nat) : Int)) (((i * i : Nat) : Int)))).y), sg (((still (((i : Nat) : Int)) (((i * i : Nat) : Int)))).d), mg (((still (((i : Nat) : Int)) (((i * i : Nat) : Int)))).d), .int .i64 ((id % 40))], .one (.row [[pl (((still (((i : Nat) : Int)) (((i * i : Nat) : Int)))).x), pl (((still (((i : Nat) : Int)) (((i * i : Nat) : Int)))).y), sg (((still (((i : Nat) : Int)) (((i * i : Nat) : Int)))).d), mg (((still (((i : Nat) : Int)) (((i * i : Nat) : Int)))).d), .int .i64 ((id % 40))]])] rfl rfl rfl ⟨p_move rfl rfl, p_move rfl rfl, p_move rfl rfl, p_move rfl rfl, p_mul (r := ((i * i : Nat) : Int)) rfl rfl (i64_is (by rw [Int.natCast_mul]) (by omega)) rfl, p_call Tryz.func45 rfl rfl rfl rfl (d_curve_Still (by omega) (by omega)) rfl, p_move rfl rfl, p_move rfl rfl, p_index (i) Tryz.runUnderlying22 Tryz.sizeOf76 rfl rfl (rfl) (hzi) rfl rfl, p_fieldSh fa_76_1 rfl rfl rfl, p_loadSh Tryz.isAgg3 Tryz.sizeOf3 rfl rfl rfl rfl, p_call Tryz.func18 rfl rfl rfl rfl (d_keep_Within (hid) (by omega)) rfl, p_build (bd_76) rfl rfl rfl rfl, p_lit Tryz.runUnderlying22 Tryz.sizeOf76 Tryz.zeroValue76 rfl rfl rfl rfl rfl rfl rfl rfl rfl rfl, trivial⟩ rfl ?_
          refine a_append (ls2 := (npts zs (i + 1)).map ofPt) (m2 := i + 1) 0 Tryz.runUnderlying22 Tryz.runUnderlying22 Tryz.typeInfo76 rfl rfl Tryz.sizeOf76 Tryz.zeroValue76 rfl rfl rfl rfl rfl rfl rfl (by rw [List.length_map, npts_len]; exact Nat.le_refl _) (one_w rfl) (one_f rfl) (by show _ + 1 < _; omega) (by rw [List.take_of_length_le (by rw [List.length_map, npts_len]; exact Nat.le_refl _), npts_snoc, hpt]; rfl) (rfl) fun r1 => ?_
          refine w_ (p_assign rfl rfl) ?_
          refine aw_nil ?_
          refine ac_reg ?_
          refine w_ (p_move rfl rfl) ?_
          refine w_ (p_add (r := ((i + 1 : Nat) : Int)) rfl rfl (i64_is (by omega) (by omega)) rfl) ?_
          refine w_ (p_assign rfl rfl) ?_
          refine aw_pick [0, 1, 5, 6] rfl ?_
          refine aw_nil ?_
          refine ⟨_, ?_, i + 1, r1, by omega, by omega, rfl, rfl, rfl⟩
          omega
        · skip
          refine ac_seq ?_
          refine ac_seq ?_
          refine ac_reg ?_
          refine w_ (p_move rfl rfl) ?_
          refine w_ (p_move rfl rfl) ?_
          refine w_ (p_len (m := zs.length) Tryz.runUnderlying22 rfl (rfl) rfl) ?_
          refine w_ (p_cmp rfl rfl rfl rfl) ?_
          refine w_ (p_move rfl rfl) ?_
          refine w_ ((p_grun rfl rfl (decide_eq_true (by omega)) (p_move rfl rfl))) ?_
          refine w_ ((p_grun rfl rfl (decide_eq_true (by omega)) (p_move rfl rfl))) ?_
          refine w_ ((p_grun rfl rfl (decide_eq_true (by omega)) (p_cmp rfl rfl rfl rfl))) ?_
          refine w_ (p_pickT rfl (decide_eq_true (by omega)) rfl rfl) ?_
          refine aw_nil ?_
          refine ac_f rfl (decide_eq_false (by omega)) ?_
          refine ac_pick [1, 5] rfl ?_
          refine ac_exit ?_
          repeat refine seqQ_exit ?_
          refine blkQ_here ?_
          exact ⟨i, r, by omega, by omega, rfl, rfl⟩
      · skip
        refine ac_seq ?_
        refine ac_seq ?_
        refine ac_reg ?_
        refine w_ (p_move rfl rfl) ?_
        refine w_ (p_move rfl rfl) ?_
        refine w_ (p_len (m := zs.length) Tryz.runUnderlying22 rfl (rfl) rfl) ?_
        refine w_ (p_cmp rfl rfl rfl rfl) ?_
        refine w_ (p_move rfl rfl) ?_
        refine w_ (p_gskip rfl rfl (decide_eq_false (by omega)) rfl) ?_
        refine w_ (p_gskip rfl rfl (decide_eq_false (by omega)) rfl) ?_
        refine w_ (p_gskip rfl rfl (decide_eq_false (by omega)) rfl) ?_
        refine w_ (p_pickF rfl (decide_eq_false (by omega)) rfl rfl) ?_
        refine aw_nil ?_
        refine ac_f rfl (rfl) ?_
        refine ac_pick [1, 5] rfl ?_
        refine ac_exit ?_
        repeat refine seqQ_exit ?_
        refine blkQ_here ?_
        exact ⟨i, r, by omega, by omega, rfl, rfl⟩
    · rintro L B ⟨i, r, hp0, hp1, rfl, rfl⟩
      skip
      · skip
        refine ac_cut (fun L B => L = [(5, .one (pts ((npts zs N))))] ∧ B = []) ?_ ?_
        · skip
          refine ac_seq ?_
          refine ac_reg ?_
          refine w_ (p_move rfl rfl) ?_
          refine w_ (p_len (m := i) Tryz.runUnderlying22 rfl (rfl) rfl) ?_
          refine w_ (p_assign rfl rfl) ?_
          refine aw_nil ?_
          refine ac_block ?_
          refine ac_pick [1, 5, 7] rfl ?_
          refine ac_loop (fun m L B => ∃ i r, i ≤ N ∧ (zs.length ≤ i ∨ i = N) ∧ m = N - i ∧ L = [(1, .one (.int .i64 (((N : Nat) : Int)))), (5, .one (.orow r 5 0 i)), (7, .one (.int .i64 (((i : Nat) : Int))))] ∧ B = [.row r 76 5 ((npts zs i).map ofPt)]) (m := _) ⟨i, r, hp0, hp1, rfl, rfl, rfl⟩ ?_
          rintro m L B ⟨i, r, hp0, hp1, hm, rfl, rfl⟩
          by_cases h2 : i < N
          · have hii : i * i ≤ 8 * 8 := Nat.mul_le_mul (by omega) (by omega)
            have hnm : (-((i : Nat) : Int)) * ((i : Nat) : Int) = -((i * i : Nat) : Int) := by rw [Int.neg_mul, Int.natCast_mul]
            have hpt := npt_out (zs := zs) (i := i) (by omega)
            refine ac_seq ?_
            refine ac_seq ?_
            refine ac_reg ?_
            refine w_ (p_move rfl rfl) ?_
            refine w_ (p_move rfl rfl) ?_
            refine w_ (p_cmp rfl rfl rfl rfl) ?_
            refine aw_nil ?_
            refine ac_t rfl (decide_eq_true (by omega)) ?_
            refine ac_skip ?_
            refine ac_seq ?_
            refine ac_block ?_
            refine ac_reg ?_
            refine w_ (p_move rfl rfl) ?_
            refine w_ (p_move rfl rfl) ?_
            refine w_ (p_move rfl rfl) ?_
            refine w_ (p_neg (r := (-(((i : Nat) : Int)))) rfl (i64_is rfl (by omega)) rfl) ?_
            refine w_ (p_move rfl rfl) ?_
            refine w_ (p_mul (r := (-((i * i : Nat) : Int))) rfl rfl (i64_is hnm (by omega)) rfl) ?_
            refine w_ (p_call Tryz.func45 rfl rfl rfl rfl (d_curve_Still (by omega) (by omega)) rfl) ?_
            refine w_ (p_move rfl rfl) ?_
            refine w_ (p_add (r := ((100 + i : Nat) : Int)) rfl rfl (i64_is (by omega) (by omega)) rfl) ?_
            refine w_ (p_build (bd_76) rfl rfl rfl rfl) ?_
            refine w_ (p_lit Tryz.runUnderlying22 Tryz.sizeOf76 Tryz.zeroValue76 rfl rfl rfl rfl rfl rfl rfl rfl rfl rfl) ?_
            refine a_append (ls2 := (npts zs (i + 1)).map ofPt) (m2 := i + 1) 0 Tryz.runUnderlying22 Tryz.runUnderlying22 Tryz.typeInfo76 rfl rfl Tryz.sizeOf76 Tryz.zeroValue76 rfl rfl rfl rfl rfl rfl rfl (by rw [List.length_map, npts_len]; exact Nat.le_refl _) (one_w rfl) (one_f rfl) (by show _ + 1 < _; omega) (by rw [List.take_of_length_le (by rw [List.length_map, npts_len]; exact Nat.le_refl _), npts_snoc, hpt]; rfl) (rfl) fun r2 => ?_
            refine w_ (p_assign rfl rfl) ?_
            refine aw_nil ?_
            refine ac_reg ?_
            refine w_ (p_move rfl rfl) ?_
            refine w_ (p_add (r := ((i + 1 : Nat) : Int)) rfl rfl (i64_is (by omega) (by omega)) rfl) ?_
            refine w_ (p_assign rfl rfl) ?_
            refine aw_pick [1, 5, 7] rfl ?_
            refine aw_nil ?_
            refine ⟨_, ?_, i + 1, r2, by omega, by omega, rfl, rfl, rfl⟩
            omega
          · have hi : i = N := by omega
            refine ac_pub (L2 := _) 0 [5] rfl (allAre1 rfl) (by rw [List.length_map, npts_len]) (by rw [List.length_map, npts_len]; omega) rfl ?_
            refine ac_slotEq 5 (y := .one (pts (npts zs N))) rfl (by rw [hi]; rfl) ?_
            refine ac_seq ?_
            refine ac_seq ?_
            refine ac_reg ?_
            refine w_ (p_move rfl rfl) ?_
            refine w_ (p_move rfl rfl) ?_
            refine w_ (p_cmp rfl rfl rfl rfl) ?_
            refine aw_nil ?_
            refine ac_f rfl (decide_eq_false (by omega)) ?_
            refine ac_pick [5] rfl ?_
            refine ac_exit ?_
            repeat refine seqQ_exit ?_
            refine blkQ_here ?_
            exact ⟨rfl, rfl⟩
        · rintro L B ⟨rfl, rfl⟩
          have hgood : GoodP (npts zs N) := npts_good hN8
          have hlen := npts_len zs N
          by_cases h6 : 6 < N
          · skip
            refine ac_seq ?_
            refine ac_reg ?_
            refine w_ (p_build (bd_57) rfl rfl rfl rfl) ?_
            refine w_ (p_move rfl rfl) ?_
            refine w_ (p_call Tryz.func49 rfl rfl rfl rfl (d_tourney_NewF (l1 := []) (l2 := []) (qs := (npts zs N)) isInt_zero isInt_zero (by decide) (by decide) (qs_0.mono (by omega)) (isPts_n (fun x hx => ⟨(hgood x hx).1, (hgood x hx).2.mono (by omega) (by omega)⟩)) (by rw [npts_len]; omega)) rfl) ?_
            refine w_ (p_move rfl rfl) ?_
            refine w_ (p_extract rfl rfl rfl) ?_
            refine w_ (p_extract rfl rfl rfl) ?_
            refine w_ (p_assign rfl rfl) ?_
            refine w_ (p_assign rfl rfl) ?_
            refine aw_nil ?_
            refine ac_seq ?_
            refine ac_seq ?_
            refine ac_reg ?_
            refine w_ (p_move rfl rfl) ?_
            refine w_ (p_len (m := ((npts zs N)).length) Tryz.runUnderlying22 rfl (rlen_pts _) rfl) ?_
            refine w_ (p_cmp rfl rfl rfl rfl) ?_
            refine aw_nil ?_
            refine ac_t rfl (decide_eq_true (by omega)) ?_
            refine ac_seq ?_
            refine ac_reg ?_
            refine w_ (p_move rfl rfl) ?_
            refine w_ (p_cmp (b := true) rfl rfl rfl rfl) ?_
            refine w_ (p_move rfl rfl) ?_
            refine w_ ((p_grun rfl rfl (rfl) (p_move rfl rfl))) ?_
            refine w_ ((p_grun rfl rfl (rfl) (p_eqNil Tryz.runUnderlying110 rfl rfl rfl rfl rfl))) ?_
            refine w_ (p_pickT rfl (rfl) rfl rfl) ?_
            refine w_ (p_move rfl rfl) ?_
            refine w_ ((p_grun rfl rfl (rfl) (p_call Tryz.func44 rfl rfl rfl rfl (d_law19_wakes) rfl))) ?_
            refine w_ (p_pickT rfl (rfl) rfl rfl) ?_
            refine w_ (p_assign rfl rfl) ?_
            refine aw_nil ?_
            refine ac_ret ?_
            exact retB_1 Tryz.results10 (rv_tmp rfl rfl) (rfl)
          · rcases newL_news (qs := (npts zs N)) (by omega) with ⟨he0, hso, hln, hpw⟩ | ⟨he6, hpw⟩
            · skip
              refine ac_seq ?_
              refine ac_reg ?_
              refine w_ (p_build (bd_57) rfl rfl rfl rfl) ?_
              refine w_ (p_move rfl rfl) ?_
              refine a_calls (Bin := []) Tryz.func49 rfl rfl rfl rfl (d_tourney_New (l1 := []) (l2 := []) (qs := (npts zs N)) isInt_zero isInt_zero (by decide) (by decide) (qs_0.mono (by omega)) (isPts_n (fun x hx => ⟨(hgood x hx).1, (hgood x hx).2.mono (by omega) (by omega)⟩)) hgood (by omega) he0) rfl fun r_ B_ hr_ => ?_
              obtain ⟨g, rfl, rfl⟩ := hr_
              refine w_ (p_move rfl rfl) ?_
              refine w_ (p_extract rfl rfl rfl) ?_
              refine w_ (p_extract rfl rfl rfl) ?_
              refine w_ (p_assign rfl rfl) ?_
              refine w_ (p_assign rfl rfl) ?_
              refine aw_nil ?_
              refine ac_seq ?_
              refine ac_seq ?_
              refine ac_reg ?_
              refine w_ (p_move rfl rfl) ?_
              refine w_ (p_len (m := ((npts zs N)).length) Tryz.runUnderlying22 rfl (rlen_pts _) rfl) ?_
              refine w_ (p_cmp rfl rfl rfl rfl) ?_
              refine aw_nil ?_
              refine ac_f rfl (decide_eq_false (by omega)) ?_
              refine ac_skip ?_
              refine ac_seq ?_
              refine ac_seq ?_
              refine ac_reg ?_
              refine w_ (p_move rfl rfl) ?_
              refine w_ (p_len (m := ((npts zs N)).length) Tryz.runUnderlying22 rfl (rlen_pts _) rfl) ?_
              refine w_ (p_move rfl rfl) ?_
              refine aw_nil ?_
              refine ac_block ?_
              refine ac_pick [5, 8, 9, 79, 80] rfl ?_
              refine ac_loop (fun m L B => ∃ i, i ≤ N ∧ (∀ k j, k < j → j < i → (npt zs k).id ≠ (npt zs j).id) ∧ m = N - i ∧ L = [(5, .one (pts ((npts zs N)))), (8, .one (.ow g 0)), (9, .one (.int .i64 0)), (79, .one (.int .i64 (((((npts zs N)).length : Nat) : Int)))), (80, .one (.int .i64 (((i : Nat) : Int))))] ∧ B = [.blk g 122 [.bool true, pl ([-((ratOf 0 0)).num, (((ratOf 0 0)).den : Int)]), sg ((((ratOf 0 0))).num), mg ((((ratOf 0 0))).num), sg (((((ratOf 0 0))).den : Int)), mg (((((ratOf 0 0))).den : Int)), sg ((((ratOf 0 0))).num), mg ((((ratOf 0 0))).num), sg (((((ratOf 0 0))).den : Int)), mg (((((ratOf 0 0))).den : Int)), wts ((sortC (mks ((ratOf 0 0)) (play ((ratOf 0 0)) ((newL [] (npts zs N)).1)).2))), .int .i64 0, pts ((newL [] (npts zs N)).1), pts ((play ((ratOf 0 0)) ((newL [] (npts zs N)).1)).1), gms ((play ((ratOf 0 0)) ((newL [] (npts zs N)).1)).2)]]) (m := _) ⟨0, Nat.zero_le _, fun k j _ hj => absurd hj (Nat.not_lt_zero _), rfl, rfl, rfl⟩ ?_
              rintro m L B ⟨i, hp0, hp1, hm, rfl, rfl⟩
              by_cases h3 : i < N
              · skip
                refine ac_seq ?_
                refine ac_reg ?_
                refine w_ (p_cmp rfl rfl rfl rfl) ?_
                refine aw_nil ?_
                refine ac_seq ?_
                refine ac_t rfl (decide_eq_true (by omega)) ?_
                refine ac_skip ?_
                refine ac_seq ?_
                refine ac_block ?_
                refine ac_seq ?_
                refine ac_reg ?_
                refine w_ (p_move rfl rfl) ?_
                refine w_ (p_assign rfl rfl) ?_
                refine aw_nil ?_
                refine ac_seq ?_
                refine ac_reg ?_
                refine w_ (p_assign rfl rfl) ?_
                refine aw_nil ?_
                refine ac_block ?_
                refine ac_pick [5, 8, 9, 79, 80, 10, 11] rfl ?_
                refine ac_loop (fun m L B => ∃ k, k ≤ i ∧ (∀ a, a < k → (npt zs a).id ≠ (npt zs i).id) ∧ m = i - k ∧ L = [(5, .one (pts ((npts zs N)))), (8, .one (.ow g 0)), (9, .one (.int .i64 0)), (79, .one (.int .i64 (((((npts zs N)).length : Nat) : Int)))), (80, .one (.int .i64 (((i : Nat) : Int)))), (10, .one (.int .i64 (((i : Nat) : Int)))), (11, .one (.int .i64 (((k : Nat) : Int))))] ∧ B = [.blk g 122 [.bool true, pl ([-((ratOf 0 0)).num, (((ratOf 0 0)).den : Int)]), sg ((((ratOf 0 0))).num), mg ((((ratOf 0 0))).num), sg (((((ratOf 0 0))).den : Int)), mg (((((ratOf 0 0))).den : Int)), sg ((((ratOf 0 0))).num), mg ((((ratOf 0 0))).num), sg (((((ratOf 0 0))).den : Int)), mg (((((ratOf 0 0))).den : Int)), wts ((sortC (mks ((ratOf 0 0)) (play ((ratOf 0 0)) ((newL [] (npts zs N)).1)).2))), .int .i64 0, pts ((newL [] (npts zs N)).1), pts ((play ((ratOf 0 0)) ((newL [] (npts zs N)).1)).1), gms ((play ((ratOf 0 0)) ((newL [] (npts zs N)).1)).2)]]) (m := _) ⟨0, Nat.zero_le _, fun a ha => absurd ha (Nat.not_lt_zero _), rfl, rfl, rfl⟩ ?_
                rintro m L B ⟨k, hq0, hq1, hm, rfl, rfl⟩
                by_cases h4 : k < i
                · by_cases hid : (npt zs k).id = (npt zs i).id
                  · exact absurd hid ((npts_pw zs N).1 hpw k i (by omega) (by omega))
                  · skip
                    refine ac_seq ?_
                    refine ac_seq ?_
                    refine ac_reg ?_
                    refine w_ (p_move rfl rfl) ?_
                    refine w_ (p_move rfl rfl) ?_
                    refine w_ (p_cmp rfl rfl rfl rfl) ?_
                    refine aw_nil ?_
                    refine ac_t rfl (decide_eq_true (by omega)) ?_
                    refine ac_skip ?_
                    refine ac_seq ?_
                    refine ac_block ?_
                    refine ac_seq ?_
                    refine ac_draw mixed_ 10 [88, 89, 90, 91, 92, 93, 94, 95, 96, 97] [[], [], [0, 1], [2], [3], [], [], [5, 6], [7], [8]] [.one (pts ((npts zs N))), .one (.int .i64 (((k : Nat) : Int))), .one (.sh [pl (((npt zs k).c).x), pl (((npt zs k).c).y), sg (((npt zs k).c).d), mg (((npt zs k).c).d), .int .i64 ((npt zs k).id)]), .one (.sh [.int .i64 ((npt zs k).id)]), .one (.int .i64 ((npt zs k).id)), .one (pts ((npts zs N))), .one (.int .i64 (((i : Nat) : Int))), .one (.sh [pl (((npt zs i).c).x), pl (((npt zs i).c).y), sg (((npt zs i).c).d), mg (((npt zs i).c).d), .int .i64 ((npt zs i).id)]), .one (.sh [.int .i64 ((npt zs i).id)]), .one (.int .i64 ((npt zs i).id))] rfl rfl rfl ⟨p_move rfl rfl, p_move rfl rfl, p_index (k) Tryz.runUnderlying22 Tryz.sizeOf76 rfl rfl (rfl) (map_get (npts_get (by omega))) rfl rfl, p_fieldSh fa_76_1 rfl rfl rfl, p_loadSh Tryz.isAgg3 Tryz.sizeOf3 rfl rfl rfl rfl, p_move rfl rfl, p_move rfl rfl, p_index (i) Tryz.runUnderlying22 Tryz.sizeOf76 rfl rfl (rfl) (map_get (npts_get h3)) rfl rfl, p_fieldSh fa_76_1 rfl rfl rfl, p_loadSh Tryz.isAgg3 Tryz.sizeOf3 rfl rfl rfl rfl, trivial⟩ rfl ?_
                    refine w_ (p_cmp rfl rfl rfl rfl) ?_
                    refine aw_nil ?_
                    refine ac_f rfl (decide_eq_false hid) ?_
                    refine ac_skip ?_
                    refine ac_reg ?_
                    refine w_ (p_move rfl rfl) ?_
                    refine w_ (p_add (r := ((k + 1 : Nat) : Int)) rfl rfl (i64_is (by omega) (by omega)) rfl) ?_
                    refine w_ (p_assign rfl rfl) ?_
                    refine aw_pick [5, 8, 9, 79, 80, 10, 11] rfl ?_
                    refine aw_nil ?_
                    refine ⟨_, ?_, k + 1, by omega, fun a ha => by
                      rcases Nat.lt_or_ge a k with hak | hak
                      · exact hq1 a hak
                      · have : a = k := by omega
                        subst this; exact hid, rfl, rfl, rfl⟩
                    omega
                · have hki : k = i := by omega
                  rw [hki] at hq1
                  refine ac_seq ?_
                  refine ac_seq ?_
                  refine ac_reg ?_
                  refine w_ (p_move rfl rfl) ?_
                  refine w_ (p_move rfl rfl) ?_
                  refine w_ (p_cmp rfl rfl rfl rfl) ?_
                  refine aw_nil ?_
                  refine ac_f rfl (decide_eq_false (by omega)) ?_
                  refine ac_exit ?_
                  repeat refine seqQ_exit ?_
                  refine blkQ_here ?_
                  refine ac_reg ?_
                  refine w_ (p_add (r := ((i + 1 : Nat) : Int)) rfl rfl (i64_is (by omega) (by omega)) rfl) ?_
                  refine w_ (p_move rfl rfl) ?_
                  refine aw_pick [5, 8, 9, 79, 80] rfl ?_
                  refine aw_nil ?_
                  refine ⟨_, ?_, i + 1, by omega, fun a b hab hb => by
                    rcases Nat.lt_or_ge b i with hbi | hbi
                    · exact hp1 a b hab hbi
                    · have hb2 : b = i := by omega
                      subst hb2; exact hq1 a (by omega), rfl, rfl, rfl⟩
                  omega
              · skip
                refine ac_seq ?_
                refine ac_reg ?_
                refine w_ (p_cmp rfl rfl rfl rfl) ?_
                refine aw_nil ?_
                refine ac_seq ?_
                refine ac_f rfl (decide_eq_false (by omega)) ?_
                refine ac_exit ?_
                repeat refine seqQ_exit ?_
                refine blkQ_here ?_
                refine ac_seq ?_
                refine ac_seq ?_
                refine ac_reg ?_
                refine w_ (p_move rfl rfl) ?_
                refine w_ (p_cmp (b := false) rfl rfl rfl rfl) ?_
                refine w_ (p_move rfl rfl) ?_
                refine w_ ((p_grun rfl rfl (rfl) (p_move rfl rfl))) ?_
                refine w_ ((p_grun rfl rfl (rfl) (p_eqNil Tryz.runUnderlying110 rfl rfl rfl rfl rfl))) ?_
                refine w_ (p_pickF rfl (rfl) rfl rfl) ?_
                refine aw_nil ?_
                refine ac_f rfl (rfl) ?_
                refine ac_skip ?_
                refine ac_seq ?_
                refine ac_seq ?_
                refine ac_reg ?_
                refine w_ (p_move rfl rfl) ?_
                refine w_ (p_len (m := ((npts zs N)).length) Tryz.runUnderlying22 rfl (rlen_pts _) rfl) ?_
                refine w_ (p_assign rfl rfl) ?_
                refine aw_nil ?_
                refine ac_block ?_
                refine ac_slotEq 12 (y := .one (.int .i64 ((N : Nat) : Int))) rfl (by rw [npts_len]) ?_
                refine ac_pick [8, 12] rfl ?_
                refine ac_loop (fun m L B => ∃ i l1 ws y1 y2, i ≤ 6 ∧ l1.length = i ∧ SortedP l1 ∧ GoodP l1 ∧ (∀ p ∈ l1, p.id < ((200 + i : Nat) : Int)) ∧ ws.length ≤ 1000 ∧ m = 6 - i ∧ L = [(8, .one (.ow g 0)), (12, .one (.int .i64 (((i : Nat) : Int))))] ∧ B = [.blk g 122 [.bool true, pl ([-((ratOf 0 0)).num, (((ratOf 0 0)).den : Int)]), sg ((((ratOf 0 0))).num), mg ((((ratOf 0 0))).num), sg (((((ratOf 0 0))).den : Int)), mg (((((ratOf 0 0))).den : Int)), sg ((((ratOf 0 0))).num), mg ((((ratOf 0 0))).num), sg (((((ratOf 0 0))).den : Int)), mg (((((ratOf 0 0))).den : Int)), wts ws, .int .i64 0, pts l1, y1, y2]]) (m := _) ⟨N, (newL [] (npts zs N)).1, (sortC (mks (ratOf 0 0) (play (ratOf 0 0) (newL [] (npts zs N)).1).2)), _, _, by omega, by rw [hln, npts_len], hso, fun a ha => hgood a ((newL_mem _ [] ha).resolve_right (by simp)), fun p hp => by have := npts_id hN8 p ((newL_mem _ [] hp).resolve_right (by simp)); omega, by rw [sortC_len, mks_len]; have := play_games (ratOf 0 0) _ (newL [] (npts zs N)).1 (Nat.le_refl _); omega, rfl, rfl, rfl⟩ ?_
                rintro m L B ⟨i, l1, ws, y1, y2, hs0, hs1, hs2, hs3, hs4, hs5, hm, rfl, rfl⟩
                by_cases h5 : i < 6
                · skip
                  refine ac_seq ?_
                  refine ac_seq ?_
                  refine ac_reg ?_
                  refine w_ (p_move rfl rfl) ?_
                  refine w_ (p_cmp rfl rfl rfl rfl) ?_
                  refine aw_nil ?_
                  refine ac_t rfl (decide_eq_true (by omega)) ?_
                  refine ac_skip ?_
                  refine ac_seq ?_
                  refine ac_block ?_
                  refine ac_seq ?_
                  refine ac_reg ?_
                  refine w_ (p_move rfl rfl) ?_
                  refine w_ (p_call Tryz.func45 rfl rfl rfl rfl (d_curve_Still (by decide) (by decide)) rfl) ?_
                  refine w_ (p_move rfl rfl) ?_
                  refine w_ (p_add (r := ((200 + i : Nat) : Int)) rfl rfl (i64_is (by omega) (by omega)) rfl) ?_
                  refine w_ (p_build (bd_76) rfl rfl rfl rfl) ?_
                  refine a_calls (Bin := [.blk g 122 [.bool true, pl ([-((ratOf 0 0)).num, (((ratOf 0 0)).den : Int)]), sg ((((ratOf 0 0))).num), mg ((((ratOf 0 0))).num), sg (((((ratOf 0 0))).den : Int)), mg (((((ratOf 0 0))).den : Int)), sg ((((ratOf 0 0))).num), mg ((((ratOf 0 0))).num), sg (((((ratOf 0 0))).den : Int)), mg (((((ratOf 0 0))).den : Int)), wts ws, .int .i64 0, pts l1, y1, y2]]) Tryz.func50 rfl rfl rfl rfl (d_tourney_Put (isInts_n _) (isInts_n _) (isInt_n _) ((good_still (x := 0) (y := 0) (by decide) (by decide)).2.mono (by omega) (by omega)) (qs_0.mono (by omega)) hs3 (by omega) (by omega) ⟨Crv.nml _, (good_still (x := 0) (y := 0) (by decide) (by decide)).2.norm (by decide)⟩ (put_new hs2 (by omega) hs4)) rfl fun r_ B_ hr_ => ?_
                  obtain ⟨rfl, rfl⟩ := hr_
                  refine w_ (p_cmp (b := false) rfl rfl rfl rfl) ?_
                  refine aw_nil ?_
                  refine ac_f rfl (rfl) ?_
                  refine ac_skip ?_
                  refine ac_reg ?_
                  refine w_ (p_move rfl rfl) ?_
                  refine w_ (p_add (r := ((i + 1 : Nat) : Int)) rfl rfl (i64_is (by omega) (by omega)) rfl) ?_
                  refine w_ (p_assign rfl rfl) ?_
                  refine aw_pick [8, 12] rfl ?_
                  refine aw_nil ?_
                  refine ⟨_, ?_, i + 1, put l1 (Pt.mk (Crv.norm (Crv.mk (still 0 0).x (still 0 0).y (still 0 0).d)) ((200 + i : Nat) : Int)), (sortC (mks (ratOf 0 0) (play (ratOf 0 0) (put l1 (Pt.mk (Crv.norm (Crv.mk (still 0 0).x (still 0 0).y (still 0 0).d)) ((200 + i : Nat) : Int)))).2)), _, _, by omega, by rw [put_len]; omega, put_sorted hs2 (has_new hs2 hs4), fun a ha => (put_mem ha).elim (fun e => e ▸ ⟨Crv.nml _, (good_still (x := 0) (y := 0) (by decide) (by decide)).2.norm (by decide)⟩) (hs3 a), fun p hp => (put_mem hp).elim (fun e => by rw [e]; show ((200 + i : Nat) : Int) < _; omega) (fun hp => by have := hs4 p hp; omega), by rw [sortC_len, mks_len]; have := play_games (ratOf 0 0) _ (put l1 (Pt.mk (Crv.norm (Crv.mk (still 0 0).x (still 0 0).y (still 0 0).d)) ((200 + i : Nat) : Int))) (Nat.le_refl _); rw [put_len] at this; omega, rfl, rfl, rfl⟩
                  omega
                · skip
                  refine ac_seq ?_
                  refine ac_seq ?_
                  refine ac_reg ?_
                  refine w_ (p_move rfl rfl) ?_
                  refine w_ (p_cmp rfl rfl rfl rfl) ?_
                  refine aw_nil ?_
                  refine ac_f rfl (decide_eq_false (by omega)) ?_
                  refine ac_exit ?_
                  repeat refine seqQ_exit ?_
                  refine blkQ_here ?_
                  refine ac_seq ?_
                  refine ac_reg ?_
                  refine w_ (p_move rfl rfl) ?_
                  refine w_ (p_build (bd_76) rfl rfl rfl rfl) ?_
                  refine a_calls (Bin := [.blk g 122 [.bool true, pl ([-((ratOf 0 0)).num, (((ratOf 0 0)).den : Int)]), sg ((((ratOf 0 0))).num), mg ((((ratOf 0 0))).num), sg (((((ratOf 0 0))).den : Int)), mg (((((ratOf 0 0))).den : Int)), sg ((((ratOf 0 0))).num), mg ((((ratOf 0 0))).num), sg (((((ratOf 0 0))).den : Int)), mg (((((ratOf 0 0))).den : Int)), wts ws, .int .i64 0, pts l1, y1, y2]]) Tryz.func50 rfl rfl rfl rfl (by have h9 := put_full (c := Crv.norm (Crv.mk [] [] 0)) (x := 300) hs2 (by omega) (fun p hp => by have := hs4 p hp; omega); have h := d_tourney_PutE (g := g) (ev := 0) (ws := ws) (q := ratOf 0 0) (y1 := y1) (y2 := y2) (l := l1) (id := 300) (ll := []) (lx := []) (ly := []) (isInts_n []) (isInts_n []) isInt_zero cs_nil (by omega) (by rw [h9]; decide); rw [h9] at h; exact h) rfl fun r_ B_ hr_ => ?_
                  obtain ⟨rfl, rfl⟩ := hr_
                  refine w_ (p_cmp (b := true) rfl rfl rfl rfl) ?_
                  refine w_ (p_move rfl rfl) ?_
                  refine w_ ((p_grun rfl rfl (rfl) (p_move rfl rfl))) ?_
                  refine aw_grun rfl rfl (rfl) ?_
                  refine a_calls (Bin := [.blk g 122 [.bool true, pl ([-((ratOf 0 0)).num, (((ratOf 0 0)).den : Int)]), sg ((((ratOf 0 0))).num), mg ((((ratOf 0 0))).num), sg (((((ratOf 0 0))).den : Int)), mg (((((ratOf 0 0))).den : Int)), sg ((((ratOf 0 0))).num), mg ((((ratOf 0 0))).num), sg (((((ratOf 0 0))).den : Int)), mg (((((ratOf 0 0))).den : Int)), wts ws, .int .i64 0, pts l1, y1, y2]]) Tryz.func51 rfl rfl rfl rfl (d_tourney_Points (fun p hp => ⟨(hs3 p hp).1, (hs3 p hp).2.mono (by omega) (by omega)⟩) (by omega)) rfl fun r_ B_ hr_ => ?_
                  obtain ⟨rfl, rfl⟩ := hr_
                  refine w_ ((p_grun rfl rfl (rfl) (p_len (m := l1.length) Tryz.runUnderlying22 rfl (rlen_pts _) rfl))) ?_
                  refine w_ ((p_grun rfl rfl (rfl) (p_cmp rfl rfl rfl rfl))) ?_
                  refine w_ (p_pickT rfl (rfl) rfl rfl) ?_
                  refine w_ (p_move rfl rfl) ?_
                  refine w_ ((p_grun rfl rfl (decide_eq_true (by omega)) (p_call Tryz.func44 rfl rfl rfl rfl (d_law19_wakes) rfl))) ?_
                  refine w_ (p_pickT rfl (decide_eq_true (by omega)) rfl rfl) ?_
                  refine w_ (p_assign rfl rfl) ?_
                  refine aw_nil ?_
                  refine ac_ret ?_
                  exact retB_1 Tryz.results10 (rv_tmp rfl rfl) (rfl)
            · skip
              refine ac_seq ?_
              refine ac_reg ?_
              refine w_ (p_build (bd_57) rfl rfl rfl rfl) ?_
              refine w_ (p_move rfl rfl) ?_
              refine w_ (p_call Tryz.func49 rfl rfl rfl rfl (by have h := d_tourney_NewE (l1 := []) (l2 := []) (qs := (npts zs N)) isInt_zero isInt_zero (by decide) (by decide) (qs_0.mono (by omega)) (isPts_n (fun x hx => ⟨(hgood x hx).1, (hgood x hx).2.mono (by omega) (by omega)⟩)) (by rw [npts_len]; omega) (by omega); rw [he6] at h; exact h) rfl) ?_
              refine w_ (p_move rfl rfl) ?_
              refine w_ (p_extract rfl rfl rfl) ?_
              refine w_ (p_extract rfl rfl rfl) ?_
              refine w_ (p_assign rfl rfl) ?_
              refine w_ (p_assign rfl rfl) ?_
              refine aw_nil ?_
              refine ac_seq ?_
              refine ac_seq ?_
              refine ac_reg ?_
              refine w_ (p_move rfl rfl) ?_
              refine w_ (p_len (m := ((npts zs N)).length) Tryz.runUnderlying22 rfl (rlen_pts _) rfl) ?_
              refine w_ (p_cmp rfl rfl rfl rfl) ?_
              refine aw_nil ?_
              refine ac_f rfl (decide_eq_false (by omega)) ?_
              refine ac_skip ?_
              refine ac_seq ?_
              refine ac_seq ?_
              refine ac_reg ?_
              refine w_ (p_move rfl rfl) ?_
              refine w_ (p_len (m := ((npts zs N)).length) Tryz.runUnderlying22 rfl (rlen_pts _) rfl) ?_
              refine w_ (p_move rfl rfl) ?_
              refine aw_nil ?_
              refine ac_block ?_
              refine ac_pick [5, 8, 9, 79, 80] rfl ?_
              refine ac_loop (fun m L B => ∃ i, i ≤ N ∧ (∀ k j, k < j → j < i → (npt zs k).id ≠ (npt zs j).id) ∧ m = N - i ∧ L = [(5, .one (pts ((npts zs N)))), (8, .one (.nilp)), (9, .one (.int .i64 6)), (79, .one (.int .i64 (((((npts zs N)).length : Nat) : Int)))), (80, .one (.int .i64 (((i : Nat) : Int))))] ∧ B = []) (m := _) ⟨0, Nat.zero_le _, fun k j _ hj => absurd hj (Nat.not_lt_zero _), rfl, rfl, rfl⟩ ?_
              rintro m L B ⟨i, hp0, hp1, hm, rfl, rfl⟩
              by_cases h3 : i < N
              · skip
                refine ac_seq ?_
                refine ac_reg ?_
                refine w_ (p_cmp rfl rfl rfl rfl) ?_
                refine aw_nil ?_
                refine ac_seq ?_
                refine ac_t rfl (decide_eq_true (by omega)) ?_
                refine ac_skip ?_
                refine ac_seq ?_
                refine ac_block ?_
                refine ac_seq ?_
                refine ac_reg ?_
                refine w_ (p_move rfl rfl) ?_
                refine w_ (p_assign rfl rfl) ?_
                refine aw_nil ?_
                refine ac_seq ?_
                refine ac_reg ?_
                refine w_ (p_assign rfl rfl) ?_
                refine aw_nil ?_
                refine ac_block ?_
                refine ac_pick [5, 8, 9, 79, 80, 10, 11] rfl ?_
                refine ac_loop (fun m L B => ∃ k, k ≤ i ∧ (∀ a, a < k → (npt zs a).id ≠ (npt zs i).id) ∧ m = i - k ∧ L = [(5, .one (pts ((npts zs N)))), (8, .one (.nilp)), (9, .one (.int .i64 6)), (79, .one (.int .i64 (((((npts zs N)).length : Nat) : Int)))), (80, .one (.int .i64 (((i : Nat) : Int)))), (10, .one (.int .i64 (((i : Nat) : Int)))), (11, .one (.int .i64 (((k : Nat) : Int))))] ∧ B = []) (m := _) ⟨0, Nat.zero_le _, fun a ha => absurd ha (Nat.not_lt_zero _), rfl, rfl, rfl⟩ ?_
                rintro m L B ⟨k, hq0, hq1, hm, rfl, rfl⟩
                by_cases h4 : k < i
                · by_cases hid : (npt zs k).id = (npt zs i).id
                  · skip
                    refine ac_seq ?_
                    refine ac_seq ?_
                    refine ac_reg ?_
                    refine w_ (p_move rfl rfl) ?_
                    refine w_ (p_move rfl rfl) ?_
                    refine w_ (p_cmp rfl rfl rfl rfl) ?_
                    refine aw_nil ?_
                    refine ac_t rfl (decide_eq_true (by omega)) ?_
                    refine ac_skip ?_
                    refine ac_seq ?_
                    refine ac_block ?_
                    refine ac_seq ?_
                    refine ac_draw mixed_ 10 [88, 89, 90, 91, 92, 93, 94, 95, 96, 97] [[], [], [0, 1], [2], [3], [], [], [5, 6], [7], [8]] [.one (pts ((npts zs N))), .one (.int .i64 (((k : Nat) : Int))), .one (.sh [pl (((npt zs k).c).x), pl (((npt zs k).c).y), sg (((npt zs k).c).d), mg (((npt zs k).c).d), .int .i64 ((npt zs k).id)]), .one (.sh [.int .i64 ((npt zs k).id)]), .one (.int .i64 ((npt zs k).id)), .one (pts ((npts zs N))), .one (.int .i64 (((i : Nat) : Int))), .one (.sh [pl (((npt zs i).c).x), pl (((npt zs i).c).y), sg (((npt zs i).c).d), mg (((npt zs i).c).d), .int .i64 ((npt zs i).id)]), .one (.sh [.int .i64 ((npt zs i).id)]), .one (.int .i64 ((npt zs i).id))] rfl rfl rfl ⟨p_move rfl rfl, p_move rfl rfl, p_index (k) Tryz.runUnderlying22 Tryz.sizeOf76 rfl rfl (rfl) (map_get (npts_get (by omega))) rfl rfl, p_fieldSh fa_76_1 rfl rfl rfl, p_loadSh Tryz.isAgg3 Tryz.sizeOf3 rfl rfl rfl rfl, p_move rfl rfl, p_move rfl rfl, p_index (i) Tryz.runUnderlying22 Tryz.sizeOf76 rfl rfl (rfl) (map_get (npts_get h3)) rfl rfl, p_fieldSh fa_76_1 rfl rfl rfl, p_loadSh Tryz.isAgg3 Tryz.sizeOf3 rfl rfl rfl rfl, trivial⟩ rfl ?_
                    refine w_ (p_cmp rfl rfl rfl rfl) ?_
                    refine aw_nil ?_
                    refine ac_t rfl (decide_eq_true hid) ?_
                    refine ac_seq ?_
                    refine ac_reg ?_
                    refine w_ (p_move rfl rfl) ?_
                    refine w_ (p_cmp (b := true) rfl rfl rfl rfl) ?_
                    refine w_ (p_move rfl rfl) ?_
                    refine w_ ((p_grun rfl rfl (rfl) (p_move rfl rfl))) ?_
                    refine w_ ((p_grun rfl rfl (rfl) (p_eqNil Tryz.runUnderlying110 rfl rfl rfl rfl rfl))) ?_
                    refine w_ (p_pickT rfl (rfl) rfl rfl) ?_
                    refine w_ (p_move rfl rfl) ?_
                    refine w_ ((p_grun rfl rfl (rfl) (p_call Tryz.func44 rfl rfl rfl rfl (d_law19_wakes) rfl))) ?_
                    refine w_ (p_pickT rfl (rfl) rfl rfl) ?_
                    refine w_ (p_assign rfl rfl) ?_
                    refine aw_nil ?_
                    refine ac_ret ?_
                    exact retB_1 Tryz.results10 (rv_tmp rfl rfl) (rfl)
                  · skip
                    refine ac_seq ?_
                    refine ac_seq ?_
                    refine ac_reg ?_
                    refine w_ (p_move rfl rfl) ?_
                    refine w_ (p_move rfl rfl) ?_
                    refine w_ (p_cmp rfl rfl rfl rfl) ?_
                    refine aw_nil ?_
                    refine ac_t rfl (decide_eq_true (by omega)) ?_
                    refine ac_skip ?_
                    refine ac_seq ?_
                    refine ac_block ?_
                    refine ac_seq ?_
                    refine ac_draw mixed_ 10 [88, 89, 90, 91, 92, 93, 94, 95, 96, 97] [[], [], [0, 1], [2], [3], [], [], [5, 6], [7], [8]] [.one (pts ((npts zs N))), .one (.int .i64 (((k : Nat) : Int))), .one (.sh [pl (((npt zs k).c).x), pl (((npt zs k).c).y), sg (((npt zs k).c).d), mg (((npt zs k).c).d), .int .i64 ((npt zs k).id)]), .one (.sh [.int .i64 ((npt zs k).id)]), .one (.int .i64 ((npt zs k).id)), .one (pts ((npts zs N))), .one (.int .i64 (((i : Nat) : Int))), .one (.sh [pl (((npt zs i).c).x), pl (((npt zs i).c).y), sg (((npt zs i).c).d), mg (((npt zs i).c).d), .int .i64 ((npt zs i).id)]), .one (.sh [.int .i64 ((npt zs i).id)]), .one (.int .i64 ((npt zs i).id))] rfl rfl rfl ⟨p_move rfl rfl, p_move rfl rfl, p_index (k) Tryz.runUnderlying22 Tryz.sizeOf76 rfl rfl (rfl) (map_get (npts_get (by omega))) rfl rfl, p_fieldSh fa_76_1 rfl rfl rfl, p_loadSh Tryz.isAgg3 Tryz.sizeOf3 rfl rfl rfl rfl, p_move rfl rfl, p_move rfl rfl, p_index (i) Tryz.runUnderlying22 Tryz.sizeOf76 rfl rfl (rfl) (map_get (npts_get h3)) rfl rfl, p_fieldSh fa_76_1 rfl rfl rfl, p_loadSh Tryz.isAgg3 Tryz.sizeOf3 rfl rfl rfl rfl, trivial⟩ rfl ?_
                    refine w_ (p_cmp rfl rfl rfl rfl) ?_
                    refine aw_nil ?_
                    refine ac_f rfl (decide_eq_false hid) ?_
                    refine ac_skip ?_
                    refine ac_reg ?_
                    refine w_ (p_move rfl rfl) ?_
                    refine w_ (p_add (r := ((k + 1 : Nat) : Int)) rfl rfl (i64_is (by omega) (by omega)) rfl) ?_
                    refine w_ (p_assign rfl rfl) ?_
                    refine aw_pick [5, 8, 9, 79, 80, 10, 11] rfl ?_
                    refine aw_nil ?_
                    refine ⟨_, ?_, k + 1, by omega, fun a ha => by
                      rcases Nat.lt_or_ge a k with hak | hak
                      · exact hq1 a hak
                      · have : a = k := by omega
                        subst this; exact hid, rfl, rfl, rfl⟩
                    omega
                · have hki : k = i := by omega
                  rw [hki] at hq1
                  refine ac_seq ?_
                  refine ac_seq ?_
                  refine ac_reg ?_
                  refine w_ (p_move rfl rfl) ?_
                  refine w_ (p_move rfl rfl) ?_
                  refine w_ (p_cmp rfl rfl rfl rfl) ?_
                  refine aw_nil ?_
                  refine ac_f rfl (decide_eq_false (by omega)) ?_
                  refine ac_exit ?_
                  repeat refine seqQ_exit ?_
                  refine blkQ_here ?_
                  refine ac_reg ?_
                  refine w_ (p_add (r := ((i + 1 : Nat) : Int)) rfl rfl (i64_is (by omega) (by omega)) rfl) ?_
                  refine w_ (p_move rfl rfl) ?_
                  refine aw_pick [5, 8, 9, 79, 80] rfl ?_
                  refine aw_nil ?_
                  refine ⟨_, ?_, i + 1, by omega, fun a b hab hb => by
                    rcases Nat.lt_or_ge b i with hbi | hbi
                    · exact hp1 a b hab hbi
                    · have hb2 : b = i := by omega
                      subst hb2; exact hq1 a (by omega), rfl, rfl, rfl⟩
                  omega
              · exact absurd ((npts_pw zs N).2 (by rw [show N = i by omega]; exact hp1)) hpw

end Orr

namespace Orr
open Go Go.Proofs
variable {H : Type} {enc : TypeId × Value → H} {w : World} {base : Nat} {spare : Nat → Bool} {held : Bool}
theorem slice_one {P : Program} {t e fuel : Nat} {cs : List Value} {x : DataW H × List MemPlace} (ht : P.underlying t = some (.slice e)) (h : DataW.trod enc P w base spare held fuel t cs = some x) : ∃ v, cs = [v] ∧ one v = true := by
  rcases DataW.trod_slice ht h with ⟨rfl, _⟩ | ⟨a, len, cap, _, _, _, _, rfl, _⟩
  · exact ⟨_, rfl, rfl⟩
  · exact ⟨_, rfl, rfl⟩
theorem get_some {α : Type} {l : List α} {n i : Nat} (h : l.length = n) (hi : i < n) : ∃ x, l[i]? = some x := ⟨l[i]'(by omega), List.getElem?_eq_getElem (by omega)⟩
set_option maxRecDepth 20000 in
theorem pt_read {fuel : Nat} {cs : List Value} {x : DataW H × List MemPlace} (h : DataW.trod enc Tryz.prog w base spare held fuel 76 cs = some x) :
    ∃ v0 v1 v2 v3 id, cs = [v0, v1, v2, v3, .int .i64 id] ∧ one v0 = true ∧ one v1 = true ∧ one v2 = true ∧ one v3 = true ∧ (Lit.int .i64 id).wf = true := by
  obtain ⟨xs, n, _, _, hl, hxs, hf⟩ := DataW.trod_struct Tryz.underlying76 h
  have hl : cs.length = 5 := hl
  match cs, hl with
  | [v0, v1, v2, v3, v4], _ =>
    obtain ⟨z, hz⟩ := get_some (i := 1) hxs (by decide)
    have h1 := hf 1 _ rfl
    rw [hz] at h1
    obtain ⟨id, e1, _, hw⟩ := DataW.trod_int Tryz.underlying3 h1
    have e1 : [v4] = [Value.int .i64 id] := e1
    injection e1 with e1
    subst e1
    obtain ⟨z, hz⟩ := get_some (i := 0) hxs (by decide)
    have h0 := hf 0 _ rfl
    rw [hz] at h0
    obtain ⟨ys, n2, _, _, _, hys, hg⟩ := DataW.trod_struct Tryz.underlying74 h0
    obtain ⟨z0, hz0⟩ := get_some (i := 0) hys (by decide)
    obtain ⟨z1, hz1⟩ := get_some (i := 1) hys (by decide)
    obtain ⟨z2, hz2⟩ := get_some (i := 2) hys (by decide)
    have g0 := hg 0 _ rfl
    have g1 := hg 1 _ rfl
    have g2 := hg 2 _ rfl
    rw [hz0] at g0; rw [hz1] at g1; rw [hz2] at g2
    obtain ⟨u0, e0, o0⟩ := slice_one Tryz.underlying52 g0
    obtain ⟨u1, e1, o1⟩ := slice_one Tryz.underlying52 g1
    obtain ⟨qs, n3, _, _, _, hqs, hk⟩ := DataW.trod_struct Tryz.underlying55 g2
    obtain ⟨z3, hz3⟩ := get_some (i := 0) hqs (by decide)
    obtain ⟨z4, hz4⟩ := get_some (i := 1) hqs (by decide)
    have k0 := hk 0 _ rfl
    have k1 := hk 1 _ rfl
    rw [hz3] at k0; rw [hz4] at k1
    obtain ⟨b, e2, _⟩ := DataW.trod_bool Tryz.underlying4 k0
    obtain ⟨u3, e3, o3⟩ := slice_one Tryz.underlying53 k1
    have a0 : v0 = u0 := (List.cons.inj (show [v0] = [u0] from e0)).1
    have a1 : v1 = u1 := (List.cons.inj (show [v1] = [u1] from e1)).1
    have a2 : v2 = .bool b := (List.cons.inj (show [v2] = [Value.bool b] from e2)).1
    have a3 : v3 = u3 := (List.cons.inj (show [v3] = [u3] from e3)).1
    subst a0 a1 a2 a3
    exact ⟨_, _, _, _, id, rfl, o0, o1, rfl, o3, hw⟩
end Orr

namespace Orr
open Go Go.Proofs Go.ChangeShapes Go.WideShapes Go.ChangeAt Go.RowKit Go.WideElems

theorem cell_at {w : World} {a : Addr} {v : Value} (h : w.cell? a = some v) : a.spot = none ∧ a.block < w.heap.size := by
  simp only [World.cell?] at h
  split at h
  · rename_i c t fr hc
    split at h
    · cases h
    · rename_i hs
      refine ⟨by cases e : a.spot with | none => rfl | some _ => simp [e] at hs, ?_⟩
      exact (Array.getElem?_eq_some_iff.1 hc).1
  · cases h
theorem add_add {a : Addr} (h : a.spot = none) (n m : Nat) : (a.add n).add m = ⟨a.block, a.off + n + m, none⟩ := by
  obtain ⟨b, o, s⟩ := a
  simp only at h
  subst h
  simp only [Addr.add]
  split
  · rename_i h; subst h
    split
    · rename_i h; subst h; simp
    · simp
  · split
    · rename_i h; subst h; simp
    · simp

theorem same_of {w w' : World} {Bo : List Blk} (h : Moved w w' [] Bo) {p : MemPlace} (hp : p.block < w.heap.size) : w.sameAt w' p := by
  cases p with
  | cell b off => simp only [World.sameAt, World.cell?]; rw [h.keep b hp (by simp)]
  | map b => exact h.keep b hp (by simp)
theorem kept_of {w w' : World} {Bo : List Blk} (h : Moved w w' [] Bo) (may : MemPlace → Prop) : w.keptBut w' may := by
  refine ⟨h.io.1, h.io.2, fun i hi => ?_⟩
  rw [h.keep i hi (by simp)]
  cases w.heap[i]? with
  | none => rfl
  | some o => cases o <;> simp

set_option maxRecDepth 20000 in
/-- a row of points, told with what is read of it: the names -/
theorem pts_read {H : Type} {enc : TypeId × Value → H} {w : World} {v : Value} {d : DataW H} {ps : List MemPlace} {ts : List TypeId} {ds : List (DataW H)} {base : Nat}
    (hval : Value.okWide Tryz.prog w .any base 22 v) (h : DataW.Trod enc Tryz.prog w 0 (fun _ => true) true 22 v d ps)
    (hz : (DataW.weightsEach Tryz.prog ts ds).all (· ≤ reachBytes) = true) (ht : ts[0]? = some 22) (hd : ds[0]? = some d) :
    ∃ zs, Named zs ∧ LRep w (owns (fun _ => False) []) v (.row zs) := by
  obtain ⟨a, len, cap, rfl⟩ := okWide_slice Tryz.underlying22 hval
  obtain ⟨fu, h⟩ := h
  rcases Go.Deep.open_slice Tryz.underlying22 h with ⟨e, _⟩ | ⟨a', len', cap', m, n, D, Pl, e, _, hlc, hcap, hm, hx, hr⟩
  · simp only [Value.cells] at e
    have e : Value.slice a len cap = .slice none 0 0 := by simpa using e
    injection e with e1 e2 e3
    subst e1 e2 e3
    refine ⟨[], fun z hz => by simp at hz, ?_⟩
    exact LRep.row none 0 0 0 0 [] (fun _ _ => .bool true) (Nat.le_refl _) (by decide) (by decide) (by simp) (by simp) (by simp) (by simp)
  · simp only [Value.cells] at e
    have e : Value.slice a len cap = .slice (some a') len' cap' := by simpa using e
    injection e with e1 e2 e3
    subst e1 e2 e3
    simp only [if_true] at hm
    subst hm
    have hd' : d = _ := congrArg Prod.fst hx
    subst hd'
    have hw := sized_slice hz ht hd Tryz.underlying22
    have hc5 : Tryz.prog.cellsOf 76 = 5 := by kernel_rfl
    have hb : 1 ≤ Tryz.prog.bytesOf 76 := of_decide_eq_true (by kernel_rfl)
    have hlen : len < 2 ^ 47 := by
      have h1 : len ≤ (len + (m - len)) * Tryz.prog.bytesOf 76 := by
        have := Nat.mul_le_mul (Nat.le_add_right len (m - len)) hb
        omega
      have h2 : (len + (m - len)) * Tryz.prog.bytesOf 76 ≤ reachBytes := by simpa using hw
      exact Nat.lt_of_le_of_lt (Nat.le_trans h1 h2) reachBytes_lt
    have hone : ∀ i, ∃ (g : Nat → Value) (id : Int), i < len → a'.spot = none ∧ a'.block < w.heap.size ∧
        (∀ j, j < 5 → w.cell? ⟨a'.block, a'.off + i * 5 + j, none⟩ = some (g j)) ∧ (∀ j, j < 4 → one (g j) = true) ∧ g 4 = .int .i64 id ∧ (Lit.int .i64 id).wf = true := by
      intro i
      by_cases hi : i < len
      · obtain ⟨cs, hcs, htr⟩ := hr i (by omega)
        rw [hc5] at hcs
        obtain ⟨_, hl, hcell⟩ := World.cells?_some hcs
        obtain ⟨v0, v1, v2, v3, id, rfl, o0, o1, o2, o3, hwf⟩ := pt_read htr
        have c0 := hcell 0 (by decide)
        have c1 := hcell 1 (by decide)
        have c2 := hcell 2 (by decide)
        have c3 := hcell 3 (by decide)
        have c4 := hcell 4 (by decide)
        have hsp : a'.spot = none := by
          by_cases h0 : i = 0
          · subst h0
            have : (a'.add (0 * 5)).add 0 = a' := by simp [Addr.add]
            rw [this] at c0
            exact (cell_at c0).1
          · obtain ⟨cs0, hcs0, htr0⟩ := hr 0 (by omega)
            rw [hc5] at hcs0
            obtain ⟨_, _, hcell0⟩ := World.cells?_some hcs0
            obtain ⟨u0, u1, u2, u3, _, rfl, _⟩ := pt_read htr0
            have c0 := hcell0 0 (by decide)
            have : (a'.add (0 * 5)).add 0 = a' := by simp [Addr.add]
            rw [this] at c0
            exact (cell_at c0).1
        rw [add_add hsp] at c0 c1 c2 c3 c4
        have hbl := (cell_at c0).2
        refine ⟨fun j => [v0, v1, v2, v3, .int .i64 id].getD j (.bool true), id, fun _ => ⟨hsp, hbl, ?_, ?_, rfl, hwf⟩⟩
        · intro j hj
          match j, hj with
          | 0, _ => simpa using c0
          | 1, _ => simpa using c1
          | 2, _ => simpa using c2
          | 3, _ => simpa using c3
          | 4, _ => simpa using c4
        · intro j hj
          match j, hj with
          | 0, _ => simpa using o0
          | 1, _ => simpa using o1
          | 2, _ => simpa using o2
          | 3, _ => simpa using o3
      · exact ⟨fun _ => .bool true, 0, fun h => absurd h hi⟩
    let G : Nat → Nat → Value := fun i => Classical.choose (hone i)
    have hG : ∀ i, ∃ id : Int, i < len → a'.spot = none ∧ a'.block < w.heap.size ∧
        (∀ j, j < 5 → w.cell? ⟨a'.block, a'.off + i * 5 + j, none⟩ = some (G i j)) ∧ (∀ j, j < 4 → one (G i j) = true) ∧ G i 4 = .int .i64 id ∧ (Lit.int .i64 id).wf = true := fun i => Classical.choose_spec (hone i)
    let I : Nat → Int := fun i => Classical.choose (hG i)
    have hI : ∀ i, i < len → a'.spot = none ∧ a'.block < w.heap.size ∧
        (∀ j, j < 5 → w.cell? ⟨a'.block, a'.off + i * 5 + j, none⟩ = some (G i j)) ∧ (∀ j, j < 4 → one (G i j) = true) ∧ G i 4 = .int .i64 (I i) ∧ (Lit.int .i64 (I i)).wf = true := fun i => Classical.choose_spec (hG i)
    let zs : List (List LV) := (List.range len).map fun i => [.any, .any, .any, .any, .int .i64 (I i)]
    have hzl : zs.length = len := by simp [zs]
    have hzg : ∀ i cs, zs[i]? = some cs → i < len ∧ cs = [.any, .any, .any, .any, .int .i64 (I i)] := by
      intro i cs h
      simp only [zs, List.getElem?_map] at h
      by_cases hi : i < len
      · rw [List.getElem?_range hi] at h
        simp at h
        exact ⟨hi, h.symm⟩
      · rw [List.getElem?_eq_none (by simp; omega)] at h
        cases h
    refine ⟨zs, ?_, ?_⟩
    · intro z hz
      obtain ⟨i, hi⟩ := List.mem_iff_getElem?.1 hz
      obtain ⟨hl, rfl⟩ := hzg i z hi
      have hwf := (hI i hl).2.2.2.2.2
      refine ⟨_, _, _, _, _, rfl, ?_⟩
      simpa [Lit.wf, IntKind.min, IntKind.max, IntKind.signed, IntKind.bits] using hwf
    · have key : LRep w (owns (fun _ => False) []) (.slice (some a') zs.length m) (.row zs) := by
        refine LRep.row (some a') m 5 a'.block a'.off zs G (by omega) ?_ (by omega) ?_ ?_ ?_ ?_
        · have : maxLen = 2 ^ 63 - 1 := by rfl
          omega
        · intro cs hcs
          obtain ⟨i, hi⟩ := List.mem_iff_getElem?.1 hcs
          obtain ⟨_, rfl⟩ := hzg i cs hi
          rfl
        · intro h0
          obtain ⟨hs, hb, _⟩ := hI 0 (by omega)
          refine ⟨?_, hb, by simp [owns]⟩
          obtain ⟨b, o, s⟩ := a'
          simp only at hs
          rw [hs]
        · intro i cs hi j hj
          obtain ⟨hl, rfl⟩ := hzg i cs hi
          exact (hI i hl).2.2.1 j hj
        · intro i cs hi j x hx
          obtain ⟨hl, rfl⟩ := hzg i cs hi
          obtain ⟨_, _, _, h4, h5, _⟩ := hI i hl
          match j, hx with
          | 0, hx => simp at hx; subst hx; exact .any _ (h4 0 (by decide))
          | 1, hx => simp at hx; subst hx; exact .any _ (h4 1 (by decide))
          | 2, hx => simp at hx; subst hx; exact .any _ (h4 2 (by decide))
          | 3, hx => simp at hx; subst hx; exact .any _ (h4 3 (by decide))
          | 4, hx => simp at hx; subst hx; rw [h5]; exact .int _ _
          | j + 5, hx => simp at hx
      rwa [hzl] at key

set_option maxRecDepth 20000 in
/-- a law of a row of points, of which only the names are read, and a number -/
theorem law_points {f : FuncId} {fn : Func} {s : ChangeSpec} (hp : fn.params = #[22, 3]) (hr : fn.resultTypes = #[4]) (hv : s.vars = [])
    (hs : ∀ (H : Type) (d1 d2 : DataW H), s.fn H [d1, d2] = { results := [.lit (.bool true)], args := [d1, d2] })
    (hlaid : laidOutB Tryz.prog = true) (hr22 : Tryz.prog.readableRec 22 = true) (hr3 : Tryz.prog.readableRec 3 = true) (hs22 : 22 < Tryz.prog.types.size) (hs3 : 3 < Tryz.prog.types.size)
    (law : ∀ (zs : List (List LV)) (n : Int), Named zs → (-2^63 ≤ n ∧ n ≤ 2^63-1) → Does Tryz.prog f [.one (.row zs), .one (.int .i64 n)] (.one (.bool true)))
    {H : Type} {enc : TypeId × Value → H} {W : World} {base : Nat} {args : Array Value} {ds gs : List (DataW H)} {before : List MemPlace} {fresh handsOn : Bool}
    (hval : ∀ (j : Nat) t v, fn.params[j]? = some t → args[j]? = some v → Value.okWide Tryz.prog W .any base t v)
    (hW : DataW.Whole enc Tryz.prog fn.params.toList s.vars false W args.toList ds gs before)
    (hz : (DataW.weightsEach Tryz.prog (fn.params.toList ++ s.plain.varTypes Tryz.prog) (ds ++ gs)).all (· ≤ reachBytes) = true) :
    Calls Tryz.prog f args W fun e W' => ∃ v, e = .returned v ∧ s.post enc Tryz.prog fn false fresh handsOn false W args v W' := by
  have hW' := hW
  obtain ⟨p, q, hA0, hV, rfl, hfz, hnd⟩ := hW
  have hA : DataW.TrodAll enc Tryz.prog W 0 (fun _ => true) true fn.params.toList args.toList ds p := hA0
  rw [hv] at hV
  obtain ⟨rfl, rfl⟩ := trodVars_none hV
  have hlt := hW'.lt
  rw [hp] at hA hval hz
  obtain ⟨v0, vs0, d0, ds0, p0, q0, hargs0, rfl, rfl, h0, r0⟩ := trodAll_cons hA
  obtain ⟨v1, vs1, d1, ds1, p1, q1, rfl, rfl, rfl, h1, r1⟩ := trodAll_cons r0
  obtain ⟨rfl, rfl, rfl⟩ := trodAll_nil r1
  obtain rfl : args = #[v0, v1] := by cases args; simp_all
  obtain ⟨n, rfl, rfl, rfl, w1⟩ := open_int Tryz.underlying3 (hval 1 3 v1 rfl rfl) h1
  obtain ⟨zs, hn, hrep⟩ := pts_read (hval 0 22 v0 rfl rfl) h0 hz rfl rfl
  have hn1 : -2^63 ≤ n ∧ n ≤ 2^63-1 := by simpa [Lit.wf, IntKind.min, IntKind.max, IntKind.signed, IntKind.bits] using w1
  have hcall := law zs n hn hn1 (fun _ => False) W [v0, .int .i64 n] [] (fun _ h => h.elim) ⟨by simp, by simp⟩ ⟨hrep.x, (LRep.int .i64 n).x, trivial⟩ rfl
  refine hcall.mono fun e W' ⟨v, r, Bout, Bo, he, hpost, har, hbs, hm, hh⟩ => ?_
  obtain ⟨rfl, rfl⟩ := hpost
  obtain rfl : v = .bool true := by
    have h : LRep _ _ v (.bool true) := har
    cases h
    rfl
  refine ⟨_, he, ?_⟩
  refine ⟨[d0, .lit (.int .i64 n)], [], _, [], p0 ++ ([] ++ []), [], hW', ?_, ?_, ?_, kept_of hm _, fun h => by cases h⟩
  · rw [hr, List.append_nil, hs]
    exact trodAll_cons_mk (shut_bool Tryz.underlying4 true) trodAll_mk0
  · rw [hp, List.append_nil, hs]
    have hb : ∀ p ∈ p0, p.block < W.heap.size := fun p hp => hlt p (by simp [hp])
    exact trodAll_cons_mk (Trod_stays hlaid hr22 hs22 h0 (fun p hp => same_of hm (hb p hp)) (fun p hp => by simpa using hb p hp)) (trodAll_cons_mk (shut_int Tryz.underlying3 w1) trodAll_mk0)
  · rw [hv, List.append_nil, hs]
    rfl
end Orr
