/- The closest pair: walked. Numbers over digits of four decimals: plain laws. The reference: natural numbers over digits of four decimals, told by what they mean. The reference: whole numbers as rational ones. The sorted row, walked: what is asked of it, what changes it. The sorted row, walked: ranks; helps of the laws. Which points may be together: plain laws. What all laws of new structures have alike: plain. The closest pair: walked, as a whole. Tournaments, told in data: plain laws. The bracket: where matches keep their signs, it stays; who wins. Plain. Points that rise: who wins. Plain. Points with rising names, put in one behind the other. Plain. Points that run on one line: the closest two. Plain. The law PairOnLine: walked. What an argument reads as, told in plain data, where it is not looked into. The last step of a law of points and a number: the arguments as they lie in memory are told in plain data; behind the call nothing of the old memory has changed. The last step of a law of a row of numbers and a number. -/
import Derived.Test.YtbnjginelkkonaaGreatPart08
import Derived.Test.YtbnjginelkkonaaGreatPart05
import Derived.Test.YtbnjginelkkonaaGreatPart04
import Derived.Deep.Slices
import Derived.ProofKit
import Derived.OpenShut
import Derived.WideKeyArgs
import Derived.SizedLaws
set_option linter.all false

namespace Orr
open Go Go.Proofs Orq
set_option maxRecDepth 10000
def nilAt : Nat → List LV → List LV
  | _, [] => []
  | 0, x :: l => nilR x :: l
  | k + 1, x :: l => x :: nilAt k l
theorem nilAt_len : ∀ (k : Nat) (l : List LV), (nilAt k l).length = l.length
  | _, [] => by cases ‹Nat› <;> rfl
  | 0, x :: l => rfl
  | k + 1, x :: l => by simp only [nilAt, List.length_cons, nilAt_len k l]
theorem nilAt_get : ∀ (k : Nat) (l : List LV) {j : Nat} {y : LV}, (nilAt k l)[j]? = some y → ∃ x, l[j]? = some x ∧ (y = x ∨ y = nilR x)
  | 0, [], _, _, h => by simp [nilAt] at h
  | _ + 1, [], _, _, h => by simp [nilAt] at h
  | 0, x :: l, 0, y, h => by simp [nilAt] at h; exact ⟨x, rfl, .inr h.symm⟩
  | 0, x :: l, j + 1, y, h => by simp [nilAt] at h; exact ⟨y, by simpa using h, .inl rfl⟩
  | k + 1, x :: l, 0, y, h => by simp [nilAt] at h; exact ⟨x, rfl, .inl h.symm⟩
  | k + 1, x :: l, j + 1, y, h => by
    simp only [nilAt, List.getElem?_cons_succ] at h
    obtain ⟨z, h1, h2⟩ := nilAt_get k l h
    exact ⟨z, by simpa using h1, h2⟩
/-- one nil slice of an own block is told as an empty row -/
theorem nlc {P : Program} [Mo P] {n : Nat} {Q : Exit → Sg → List OB → Prop} {L : Sg} {B B' : List OB} (i d : Nat) {T : TypeId} {xs : List LV} {it : List It} (hs : startish it = true) (hb : bAt B i = some (.blk T xs)) (hB : setB B i (.blk T (nilAt d xs)) = some B') (k : AK P n Q it L B') : AK P n Q it L B := by
  obtain ⟨rfl, hl⟩ := setB_eq hB
  have hbi : B[i]? = some (.blk T xs) := bAt_eq ▸ hb
  refine AK.sub (fun F E M a w h => ⟨E, M, ?_, h.size, h.defers, h.slots⟩) hs k
  rw [nw_set, ob_set hbi]
  refine h.hs.re (fun j => ?_) (fun j => ?_) (fun j => ?_) fun j hj => ?_
  · by_cases e : j = i
    · subst e
      rw [put1_self]
      obtain ⟨g, c, m, h1, cs, h2, h3⟩ := h.blk hb
      refine ⟨g, c, m, h1, cs, h2, F2.of (by rw [nilAt_len]; exact h3.len) fun k v x hv hx => ?_⟩
      obtain ⟨y, hy, hyx⟩ := nilAt_get _ _ hx
      rcases hyx with rfl | rfl
      · exact h3.get' hv hy
      · exact nilX_ok (h3.get' hv hy)
    · rw [put1_ne _ _ e]; exact h.hs.blk j
  · by_cases e : j = i
    · subst e; rw [put1_self, ob_of hbi]; rfl
    · rw [put1_ne _ _ e]
  · by_cases e : j = i
    · subst e; rw [put1_self, ob_of hbi]; rfl
    · rw [put1_ne _ _ e]
  · by_cases e : j = i
    · subst e; rw [ob_of hbi] at hj; cases hj
    · rw [put1_ne _ _ e]; exact hj
theorem eRow' {l m : List (List LV)} (h : l = m) : TV.one (LV.row l) = .one (.row m) := h ▸ rfl
theorem c_papart {a b : Crv} (ha : Nml a) (hb : Nml b) (ca : Cb a) (cb : Cb b) : Does Tryz.prog 185 [.agg (cl a), .agg (cl b)] [pr (papart a b)] := by
  obtain ⟨p1, l1, b1⟩ := pb_right ca cb
  obtain ⟨p2, l2, b2⟩ := pb_above ca cb
  have m1 := len_pmul (pright a b) (pright a b)
  have m2 := len_pmul (pabove a b) (pabove a b)
  have q1 := bd_pmul (u := 5) b1 b1 (by omega)
  have q2 := bd_pmul (u := 5) b2 b2 (by omega)
  exact w tt Tryz.func185 rfl [.c [] (c_Right ha hb ca cb), .c [] (c_Above ha hb ca cb), .c [] (c_PMul p1.t p1.t (by omega) (by omega) b1 b1 (by omega)), .c [] (c_PMul p2.t p2.t (by omega) (by omega) b2 b2 (by omega)), .c [] (c_PAdd (by omega) (by omega) (bd_mono q1 (by omega)) (bd_mono q2 (by omega)))] rfl rfl trivial
theorem c_Farther {a b c d : Crv} (ha : Nml a) (hb : Nml b) (hc : Nml c) (hd : Nml d) (ca : Cb a) (cb : Cb b) (cc : Cb c) (cd : Cb d) : Does Tryz.prog 130 [.agg (cl a), .agg (cl b), .agg (cl c), .agg (cl d)] [pr (pfarther a b c d)] := by
  have na := c_pnorm ha (ca.mono (by omega) (by omega))
  have nb := c_pnorm hb (cb.mono (by omega) (by omega))
  have nc := c_pnorm hc (cc.mono (by omega) (by omega))
  have nd := c_pnorm hd (cd.mono (by omega) (by omega))
  have s1 := isz_dd ca cb
  have s2 := isz_dd cc cd
  have s3 := isz_dd2 ca cb
  have s4 := isz_dd2 cc cd
  have da := ca.d
  have db := cb.d
  have dc := cc.d
  have dd := cd.d
  obtain ⟨t1, l1, b1⟩ := pb_apart cc cd
  obtain ⟨t2, l2, b2⟩ := pb_apart ca cb
  have k1 := len_pscale (papart c d) ((a.d * b.d) * (a.d * b.d))
  have k2 := len_pscale (papart a b) ((c.d * d.d) * (c.d * d.d))
  have w1 := c_WMul (isInt_n a.d) (isInt_n b.d) (by omega) (by omega)
  have w2 := c_WMul (isInt_n c.d) (isInt_n d.d) (by omega) (by omega)
  have w3 := c_WMul (isInt_n (a.d * b.d)) (isInt_n (a.d * b.d)) (by omega) (by omega)
  have w4 := c_WMul (isInt_n (c.d * d.d)) (isInt_n (c.d * d.d)) (by omega) (by omega)
  have p1 := c_PScale (p := papart c d) (c := (a.d * b.d) * (a.d * b.d)) (by omega) (bd_mono b1 (by omega)) (by omega)
  have p2 := c_PScale (p := papart a b) (c := (c.d * d.d) * (c.d * d.d)) (by omega) (bd_mono b2 (by omega)) (by omega)
  have p3 := c_PSub (p := pscale (papart c d) ((a.d * b.d) * (a.d * b.d))) (q := pscale (papart a b) ((c.d * d.d) * (c.d * d.d))) (by omega) (by omega) (bd_mono (bd_pscale b1 s3) (by omega)) (bd_mono (bd_pscale b2 s4) (by omega))
  exact w tt Tryz.func130 rfl [.c [] na, .c [] nb, .c [] w1, .c [] nc, .c [] nd, .c [] w2, .c [] (c_papart hc hd cc cd), .c [] w3, .c [] p1, .c [] (c_papart ha hb ca cb), .c [] w4, .c [] p2, .c [] p3] rfl rfl trivial
theorem c_FartherS {a b c d : Pt} (ha : Sc a.c) (hb : Sc b.c) (hc : Sc c.c) (hd : Sc d.c) : Does Tryz.prog 130 [.agg (cl a.c), .agg (cl b.c), .agg (cl c.c), .agg (cl d.c)] [pr (pfarther a.c b.c c.c d.c)] := c_Farther ha.n hb.n hc.n hd.n ha.cb hb.cb hc.cb hd.cb
set_option maxHeartbeats 1000000 in
theorem c_MakeD {a b c d : Pt} {t : Tm} (ha : Sc a.c) (hb : Sc b.c) (hc : Sc c.c) (hd : Sc d.c) (ht : Va t) : Does Tryz.prog 132 [.one (.int .i64 5), .agg (ta t), .one (.row [ofPt a, ofPt b, ofPt c, ofPt d])] [.agg (ofCt (mkDist (sgA t) a b c d)), .one (.int .i64 0)] := by
  have hp := (cp_farther ha hb hc hd).dp
  have e : ofCt (mkDist (sgA t) a b c d) = [.int .i64 5, .int .i64 a.id, .int .i64 b.id, .int .i64 c.id, .int .i64 d.id, pl (pfarther a.c b.c c.c d.c), .int .i64 (germ (sgA t) (pfarther a.c b.c c.c d.c))] := by rw [mkDist]
  rw [e]
  have cg := c_gAt hp ht
  have cf := c_FartherS ha hb hc hd
  generalize pfarther a.c b.c c.c d.c = F at *
  refine fnD Tryz.func132 rfl ?_
  refine go tt [.c [] c_points5, .f rfl] rfl trivial ?_
  refine lp (S := Nat) 3 (fun L1 i => (22, .v (.one (.int .i64 (i : Int)))) :: L1) (fun i => [.blk 67 (ta t), .blk 161 zCt, .blk 161 [.int .i64 5, .int .i64 (if 1 ≤ i then a.id else 0), .int .i64 (if 2 ≤ i then b.id else 0), .int .i64 (if 3 ≤ i then c.id else 0), .int .i64 (if 4 ≤ i then d.id else 0), .nils, .int .i64 0]]) (fun i => 4 - i) (fun i => i ≤ 4) 0 (Nat.zero_le _) rfl (fun _ _ => rfl) rfl fun i hi => ?_
  rcases (show i = 0 ∨ i = 1 ∨ i = 2 ∨ i = 3 ∨ i = 4 by omega) with rfl | rfl | rfl | rfl | rfl
  · refine go tt [.t rfl, .x (i := 0) (xs := ofPt a) rfl, .i 0] rfl (by simp [AllP]) ?_
    exact rd 1 (by omega) (by omega) rfl
  · refine go tt [.t rfl, .x (i := 1) (xs := ofPt b) rfl, .i 1] rfl (by simp [AllP]) ?_
    exact rd 2 (by omega) (by omega) rfl
  · refine go tt [.t rfl, .x (i := 2) (xs := ofPt c) rfl, .i 2] rfl (by simp [AllP]) ?_
    exact rd 3 (by omega) (by omega) rfl
  · refine go tt [.t rfl, .x (i := 3) (xs := ofPt d) rfl, .i 3] rfl (by simp [AllP]) ?_
    exact rd 4 (by omega) (by omega) rfl
  · exact en tt [.f rfl, .f rfl, .f rfl, .f rfl, .f rfl, .x (i := 0) (xs := ofPt a) rfl, .x (i := 1) (xs := ofPt b) rfl, .x (i := 2) (xs := ofPt c) rfl, .x (i := 3) (xs := ofPt d) rfl, .c [] cf, .c [] cg] rfl rfl trivial
theorem c_near {s m : Pt × Pt} {t : Tm} (h1 : Sc s.1.c) (h2 : Sc s.2.c) (h3 : Sc m.1.c) (h4 : Sc m.2.c) (ht : Va t) : DoesD Tryz.prog 128 [.agg (ofPt m.1), .agg (ofPt m.2), .one (.ow 0 0), .one (.ow 1 0), .one (.ow 2 0)] [.blk 35 (ofPt s.1), .blk 35 (ofPt s.2), .blk 67 (ta t)] [] [.blk 35 (ofPt (nearer (sgA t) s m).1), .blk 35 (ofPt (nearer (sgA t) s m).2), .blk 67 (ta t)] := by
  have cf := c_FartherS h1 h2 h3 h4
  have cg := c_gAt (cp_farther h1 h2 h3 h4).dp ht
  unfold nearer
  refine fnD Tryz.func128 rfl ?_
  by_cases h : germ (sgA t) (pfarther s.1.c s.2.c m.1.c m.2.c) < 0
  · rw [if_pos h]
    exact ed tt [] [0, 1, 2] [.c [] cf, .c [] cg, .t (decide_eq_true h)] rfl trivial
  · rw [if_neg h]
    exact ed tt [] [0, 1, 2] [.c [] cf, .c [] cg, .f (decide_eq_false h)] rfl trivial
theorem c_dist {s m : Pt × Pt} {t : Tm} {L : List Ct} (h1 : Sc s.1.c) (h2 : Sc s.2.c) (h3 : Sc m.1.c) (h4 : Sc m.2.c) (ht : Va t) (hL : L.length ≤ 1000000) : DoesD Tryz.prog 131 [.agg (ofPt m.1), .agg (ofPt m.2), .one (.ow 0 0), .one (.ow 1 0), .one (.ow 2 0), .one (.ow 3 0)] [.blk 35 (ofPt s.1), .blk 35 (ofPt s.2), .blk 67 (ta t), .blk 77 [.orow 4 7 none], .row false 161 7 (ctrow L)] [] [.blk 35 (ofPt s.1), .blk 35 (ofPt s.2), .blk 67 (ta t), .blk 77 [.orow 4 7 none], .row false 161 7 (ctrow (if other s m = true then L ++ [mkDist (sgA t) s.1 s.2 m.1 m.2] else L))] := by
  have cm := c_MakeD h1 h2 h3 h4 ht
  have hq : ∀ y ∈ [ofCt (mkDist (sgA t) s.1 s.2 m.1 m.2)], y.length = 7 := fun y hy => by rw [List.mem_singleton.1 hy]; rfl
  have hcl := ct_len L
  have hsn : ctrow (L ++ [mkDist (sgA t) s.1 s.2 m.1 m.2]) = ctrow L ++ [ofCt (mkDist (sgA t) s.1 s.2 m.1 m.2)] := by simp [ctrow]
  refine fnD Tryz.func131 rfl ?_
  by_cases e1 : m.1.id = s.1.id
  · by_cases e2 : m.2.id = s.2.id
    · rw [if_neg (by simp [other, e1, e2])]
      exact ed tt [] [0, 1, 2, 3, 4] [.g 15 false (by simp [e1]), .f (by simp [e2])] rfl trivial
    · rw [if_pos (by simp [other, e2]), hsn]
      exact ed tt [] [0, 1, 2, 3, 4] [.g 15 false (by simp [e1]), .t (by simp [e2]), .c [] cm, .s (sz := 7) hq] rfl (by simp [AllP, hcl]; omega)
  · rw [if_pos (by simp [other, e1]), hsn]
    exact ed tt [] [0, 1, 2, 3, 4] [.g 15 true (by simp [e1]), .t rfl, .c [] cm, .s (sz := 7) hq] rfl (by simp [AllP, hcl]; omega)
theorem pairsK_zero (M : List Pt) : pairsK 0 M = [] := by cases M <;> rfl
def prs (M : List Pt) (x : Pt) (i j : Nat) : List (Pt × Pt) := pairsK i M ++ ((M.drop (i + 1)).take j).map (fun y => (x, y))
theorem prs_zero (M : List Pt) (x : Pt) (i : Nat) : prs M x i 0 = pairsK i M := by rw [prs, List.take_zero, List.map_nil, List.append_nil]
theorem prs_next {M : List Pt} {i j : Nat} {x y : Pt} (hy : (M.drop (i + 1))[j]? = some y) : prs M x i (j + 1) = prs M x i j ++ [(x, y)] := by
  unfold prs
  rw [List.take_succ, hy, Option.toList_some, List.map_append, List.append_assoc]; rfl
theorem prs_end {M : List Pt} {i j : Nat} {x : Pt} (hx : M[i]? = some x) (hj : (M.drop (i + 1)).length ≤ j) : prs M x i j = pairsK (i + 1) M := by
  unfold prs
  rw [List.take_of_length_le hj, pairsK_next M i x hx]
theorem prs_mem {M : List Pt} {i j : Nat} {x : Pt} (hx : M[i]? = some x) : ∀ m ∈ prs M x i j, m.1 ∈ M ∧ m.2 ∈ M := fun m hm => by
  rcases List.mem_append.1 hm with h | h
  · exact pairsK_mem _ _ m h
  · obtain ⟨y, hy, rfl⟩ := List.mem_map.1 h
    exact ⟨List.mem_of_getElem? hx, List.mem_of_mem_drop (List.mem_of_mem_take hy)⟩
theorem c_pairs1 {l : List Pt} {t : Tm} {s0 : Pt × Pt} (hl : ∀ p ∈ l, Sc p.c) (hs : s0.1 ∈ l ∧ s0.2 ∈ l) (hn : l.length ≤ 1000) (ht : Va t) : DoesD Tryz.prog 127 [.one (pts l), .one (.ofn 128 [] [.ow 0 0, .ow 1 0, .ow 2 0])] [.blk 35 (ofPt s0.1), .blk 35 (ofPt s0.2), .blk 67 (ta t)] [] [.blk 35 (ofPt (nearest (sgA t) s0 (pairsOf l)).1), .blk 35 (ofPt (nearest (sgA t) s0 (pairsOf l)).2), .blk 67 (ta t)] := by
  have hcl := rp_len l
  have hsc : ∀ ps : List (Pt × Pt), (∀ m ∈ ps, m.1 ∈ l ∧ m.2 ∈ l) → Sc (nearest (sgA t) s0 ps).1.c ∧ Sc (nearest (sgA t) s0 ps).2.c := fun ps h => by
    obtain ⟨h1, h2⟩ := nearest_mem (sgA t) ps s0 hs h
    exact ⟨hl _ h1, hl _ h2⟩
  show DoesD Tryz.prog 127 [.one (.row (ptrow l)), .one (.ofn 128 [] [.ow 0 0, .ow 1 0, .ow 2 0])] _ _ _
  refine fnD Tryz.func127 rfl ?_
  refine go tt [] rfl trivial ?_
  refine lp (S := Nat) 3 (fun L1 i => (10, .v (.one (.int .i64 (i : Int)))) :: L1) (fun i => [.blk 35 (ofPt (nearest (sgA t) s0 (pairsK i l)).1), .blk 35 (ofPt (nearest (sgA t) s0 (pairsK i l)).2), .blk 67 (ta t)]) (fun i => l.length - i) (fun i => i ≤ l.length) 0 (Nat.zero_le _) rfl (fun _ _ => rfl) (by rw [pairsK_zero]; rfl) fun i hi => ?_
  by_cases hlt : i < l.length
  · obtain ⟨x, hx⟩ : ∃ x, l[i]? = some x := ⟨_, List.getElem?_eq_getElem hlt⟩
    have ed1 : (ptrow l).drop (i + 1) = ptrow (l.drop (i + 1)) := by simp [ptrow, List.map_drop]
    have hdl := rp_len (l.drop (i + 1))
    have hdl2 : (l.drop (i + 1)).length ≤ 1000 := by rw [List.length_drop]; omega
    rw [← prs_zero l x i]
    refine go tt [.t (by simp [hcl]; omega), .x (rp_get hx), .r 17 (eI (b := ((i + 1 : Nat) : Int)) (by simp)), .i (i + 1), .r 18 (eRow' ed1)] rfl (by simp [AllP, rp_len, eq_true (p := ∀ z, z ∈ ptrow l → z.length = ti35.sz) (rp_five l)]; omega) ?_
    refine lp (S := Nat) 4 (fun L1 j => (20, .v (.one (.int .i64 (j : Int)))) :: L1) (fun j => [.blk 35 (ofPt (nearest (sgA t) s0 (prs l x i j)).1), .blk 35 (ofPt (nearest (sgA t) s0 (prs l x i j)).2), .blk 67 (ta t), .blk 35 (ofPt x)]) (fun j => (l.drop (i + 1)).length - j) (fun j => j ≤ (l.drop (i + 1)).length) 0 (Nat.zero_le _) rfl (fun _ _ => rfl) rfl fun j hj => ?_
    by_cases hltj : j < (l.drop (i + 1)).length
    · obtain ⟨y, hy⟩ : ∃ y, (l.drop (i + 1))[j]? = some y := ⟨_, List.getElem?_eq_getElem hltj⟩
      obtain ⟨s1, s2⟩ := hsc (prs l x i j) (prs_mem hx)
      have cn := c_near (s := nearest (sgA t) s0 (prs l x i j)) (m := (x, y)) s1 s2 (hl x (List.mem_of_getElem? hx)) (hl y (List.mem_of_mem_drop (List.mem_of_getElem? hy))) ht
      rw [← nearest_snoc, ← prs_next hy] at cn
      refine go tt [.t (decide_eq_true (by omega)), .x (rp_get hy), .c [0, 1, 2] cn] rfl (by simp [AllP, -List.length_drop]; omega) ?_
      exact rd (j + 1) (by omega) hltj rfl
    · have e := prs_end hx (Nat.le_of_not_lt hltj)
      rw [e]
      refine go tt [.f (decide_eq_false (by omega))] rfl (by simp [AllP, -List.length_drop]; omega) ?_
      exact rd (i + 1) (by omega) hlt rfl
  · obtain rfl : i = l.length := by omega
    exact ed tt [] [0, 1, 2] [.f (by simp [hcl])] rfl trivial
theorem c_pairs2 {l : List Pt} {t : Tm} {s : Pt × Pt} (hl : ∀ p ∈ l, Sc p.c) (hs : s.1 ∈ l ∧ s.2 ∈ l) (hn : l.length ≤ 10) (ht : Va t) : DoesD Tryz.prog 127 [.one (pts l), .one (.ofn 131 [] [.ow 0 0, .ow 1 0, .ow 2 0, .ow 3 0])] [.blk 35 (ofPt s.1), .blk 35 (ofPt s.2), .blk 67 (ta t), .blk 77 [.orow 4 7 none], .row false 161 7 []] [] [.blk 35 (ofPt s.1), .blk 35 (ofPt s.2), .blk 67 (ta t), .blk 77 [.orow 4 7 none], .row false 161 7 (ctrow (dists (sgA t) s (pairsOf l)))] := by
  have hcl := rp_len l
  have hpk : ∀ i, i ≤ l.length → (pairsK i l).length ≤ 100 := fun i hi => by
    have := pairsK_len i l
    have : i * l.length ≤ 10 * 10 := Nat.mul_le_mul (by omega) hn
    omega
  show DoesD Tryz.prog 127 [.one (.row (ptrow l)), .one (.ofn 131 [] [.ow 0 0, .ow 1 0, .ow 2 0, .ow 3 0])] _ _ _
  refine fnD Tryz.func127 rfl ?_
  refine go tt [] rfl trivial ?_
  refine lp (S := Nat) 5 (fun L1 i => (10, .v (.one (.int .i64 (i : Int)))) :: L1) (fun i => [.blk 35 (ofPt s.1), .blk 35 (ofPt s.2), .blk 67 (ta t), .blk 77 [.orow 4 7 none], .row false 161 7 (ctrow (dists (sgA t) s (pairsK i l)))]) (fun i => l.length - i) (fun i => i ≤ l.length) 0 (Nat.zero_le _) rfl (fun _ _ => rfl) (by rw [pairsK_zero]; rfl) fun i hi => ?_
  by_cases hlt : i < l.length
  · obtain ⟨x, hx⟩ : ∃ x, l[i]? = some x := ⟨_, List.getElem?_eq_getElem hlt⟩
    have ed1 : (ptrow l).drop (i + 1) = ptrow (l.drop (i + 1)) := by simp [ptrow, List.map_drop]
    have hdl := rp_len (l.drop (i + 1))
    have hdl2 : (l.drop (i + 1)).length ≤ 10 := by rw [List.length_drop]; omega
    rw [← prs_zero l x i]
    refine go tt [.t (by simp [hcl]; omega), .x (rp_get hx), .r 17 (eI (b := ((i + 1 : Nat) : Int)) (by simp)), .i (i + 1), .r 18 (eRow' ed1)] rfl (by simp [AllP, rp_len, eq_true (p := ∀ z, z ∈ ptrow l → z.length = ti35.sz) (rp_five l)]; omega) ?_
    refine lp (S := Nat) 6 (fun L1 j => (20, .v (.one (.int .i64 (j : Int)))) :: L1) (fun j => [.blk 35 (ofPt s.1), .blk 35 (ofPt s.2), .blk 67 (ta t), .blk 77 [.orow 4 7 none], .row false 161 7 (ctrow (dists (sgA t) s (prs l x i j))), .blk 35 (ofPt x)]) (fun j => (l.drop (i + 1)).length - j) (fun j => j ≤ (l.drop (i + 1)).length) 0 (Nat.zero_le _) rfl (fun _ _ => rfl) rfl fun j hj => ?_
    by_cases hltj : j < (l.drop (i + 1)).length
    · obtain ⟨y, hy⟩ : ∃ y, (l.drop (i + 1))[j]? = some y := ⟨_, List.getElem?_eq_getElem hltj⟩
      have hdn : (dists (sgA t) s (prs l x i j)).length ≤ 1000000 := by
        refine Nat.le_trans (dists_len _ _ _) ?_
        unfold prs
        rw [List.length_append, List.length_map, List.length_take]
        have := hpk i hi; omega
      have cn := c_dist (s := s) (m := (x, y)) (L := dists (sgA t) s (prs l x i j)) (hl _ hs.1) (hl _ hs.2) (hl x (List.mem_of_getElem? hx)) (hl y (List.mem_of_mem_drop (List.mem_of_getElem? hy))) ht hdn
      have en1 : (if other s (x, y) = true then dists (sgA t) s (prs l x i j) ++ [mkDist (sgA t) s.1 s.2 x y] else dists (sgA t) s (prs l x i j)) = dists (sgA t) s (prs l x i (j + 1)) := by
        rw [prs_next hy]
        cases h : other s (x, y) with
        | true => rw [if_pos rfl, dists_t h]
        | false => rw [if_neg (by decide), dists_f h]
      dsimp only at cn
      rw [en1] at cn
      refine go tt [.t (decide_eq_true (by omega)), .x (rp_get hy), .c [0, 1, 2, 3, 4] cn] rfl (by simp [AllP, -List.length_drop]; omega) ?_
      exact rd (j + 1) (by omega) hltj rfl
    · have e := prs_end hx (Nat.le_of_not_lt hltj)
      rw [e]
      refine go tt [.f (decide_eq_false (by omega))] rfl (by simp [AllP, -List.length_drop]; omega) ?_
      exact rd (i + 1) (by omega) hlt rfl
  · obtain rfl : i = l.length := by omega
    exact ed tt [] [0, 1, 2, 3, 4] [.f (by simp [hcl])] rfl trivial
theorem c_PBuild1 {l : List Pt} {a : Tm} {c : Cr} {r1 : List (List LV)} (hl : ∀ p ∈ l, Sc p.c) (hn : l.length ≤ 10) (ha : Va a) : DoesD Tryz.prog 80 [.one (.ow 0 0), .agg (ta a)] [.blk 74 (crl c (ptrow l) r1)] [.one (.row (ctrow (pairC (sgA a) l)))] [.blk 74 (crl c (ptrow l) (ptrow (pairB (sgA a) l)))] := by
  have hcl := rp_len l
  refine fnD Tryz.func80 rfl ?_
  by_cases h2 : l.length < 2
  · obtain ⟨e1, e2⟩ := pairB_few (sgA a) h2
    rw [e1, e2]
    refine go tt [.c [] c_List] rfl trivial ?_
    refine nlc 0 13 rfl rfl rfl ?_
    have hml : (l.map ofPt).length = l.length := List.length_map _
    exact ed tt [] [0] [.t (decide_eq_true (by omega))] rfl trivial
  · obtain ⟨x, y, l', rfl⟩ := two_of h2
    obtain ⟨l, hle⟩ : ∃ l, l = x :: y :: l' := ⟨_, rfl⟩
    have hx0 : (ptrow l)[0]? = some (ofPt x) := by rw [hle]; rfl
    have hy0 : (ptrow l)[1]? = some (ofPt y) := by rw [hle]; rfl
    have hxl : x ∈ l := by rw [hle]; simp
    have hyl : y ∈ l := by rw [hle]; simp
    have eB : pairB (sgA a) (x :: y :: l') = [(nearest (sgA a) (x, y) (pairsOf l)).1, (nearest (sgA a) (x, y) (pairsOf l)).2] := by rw [hle]; rfl
    have eC : pairC (sgA a) (x :: y :: l') = dists (sgA a) (nearest (sgA a) (x, y) (pairsOf l)) (pairsOf l) := by rw [hle]; rfl
    rw [eB, eC]
    rw [← hle] at hl hn h2 hcl ⊢
    have c1 := c_pairs1 (t := a) (s0 := (x, y)) hl ⟨hxl, hyl⟩ (by omega) ha
    obtain ⟨n1, n2⟩ := nearest_mem (sgA a) (l := l) (pairsOf l) (x, y) ⟨hxl, hyl⟩ (pairsK_mem _ _)
    generalize nearest (sgA a) (x, y) (pairsOf l) = s at *
    have c2 := c_pairs2 (t := a) (s := s) hl ⟨n1, n2⟩ hn ha
    have hml : (l.map ofPt).length = l.length := List.length_map _
    exact ed tt [5] [0] [.c [] c_List, .f (decide_eq_false (by omega)), .x hx0, .x hy0, .c [2, 3, 1] c1, .oc 8 0 161 7, .c [2, 3, 1, 4, 5] c2] rfl trivial
theorem c_PBuild0 {l : List Pt} {a : Tm} (hl : ∀ p ∈ l, Sc p.c) (hn : l.length ≤ 10) (ha : Va a) : DoesD Tryz.prog 80 [.one (.ow 0 0), .agg (ta a)] [.blk 74 (crz (.row (ptrow l)) .nils)] [.one (.row (ctrow (pairC (sgA a) l)))] [.blk 74 (crz (.row (ptrow l)) (.row (ptrow (pairB (sgA a) l))))] := by
  have hcl := rp_len l
  refine fnD Tryz.func80 rfl ?_
  by_cases h2 : l.length < 2
  · obtain ⟨e1, e2⟩ := pairB_few (sgA a) h2
    rw [e1, e2]
    refine go tt [.c [] c_List] rfl trivial ?_
    refine nlc 0 13 rfl rfl rfl ?_
    have hml : (l.map ofPt).length = l.length := List.length_map _
    exact ed tt [] [0] [.t (decide_eq_true (by omega))] rfl trivial
  · obtain ⟨x, y, l', rfl⟩ := two_of h2
    obtain ⟨l, hle⟩ : ∃ l, l = x :: y :: l' := ⟨_, rfl⟩
    have hx0 : (ptrow l)[0]? = some (ofPt x) := by rw [hle]; rfl
    have hy0 : (ptrow l)[1]? = some (ofPt y) := by rw [hle]; rfl
    have hxl : x ∈ l := by rw [hle]; simp
    have hyl : y ∈ l := by rw [hle]; simp
    have eB : pairB (sgA a) (x :: y :: l') = [(nearest (sgA a) (x, y) (pairsOf l)).1, (nearest (sgA a) (x, y) (pairsOf l)).2] := by rw [hle]; rfl
    have eC : pairC (sgA a) (x :: y :: l') = dists (sgA a) (nearest (sgA a) (x, y) (pairsOf l)) (pairsOf l) := by rw [hle]; rfl
    rw [eB, eC]
    rw [← hle] at hl hn h2 hcl ⊢
    have c1 := c_pairs1 (t := a) (s0 := (x, y)) hl ⟨hxl, hyl⟩ (by omega) ha
    obtain ⟨n1, n2⟩ := nearest_mem (sgA a) (l := l) (pairsOf l) (x, y) ⟨hxl, hyl⟩ (pairsK_mem _ _)
    generalize nearest (sgA a) (x, y) (pairsOf l) = s at *
    have c2 := c_pairs2 (t := a) (s := s) hl ⟨n1, n2⟩ hn ha
    have hml : (l.map ofPt).length = l.length := List.length_map _
    exact ed tt [5] [0] [.c [] c_List, .f (decide_eq_false (by omega)), .x hx0, .x hy0, .c [2, 3, 1] c1, .oc 8 0 161 7, .c [2, 3, 1, 4, 5] c2] rfl trivial
theorem c_KGoP {T : Nat} {t : Rat} {Bc : Tm → List Ct} {Br : Tm → List (List LV)} {r0 : List (List LV)} (ht : Qs 900 t) (hB : BuildOk Bc)
    (hb : ∀ a c r1, Va a → CrOk c → DoesD Tryz.prog 80 [.one (.ow 0 0), .agg (ta a)] [.blk T (crl c r0 r1)] [.one (.row (ctrow (Bc a)))] [.blk T (crl c r0 (Br a))])
    {K : Nat} {c c' : Cr} {r1 r1' : List (List LV)} {n : Int} (hc : CrOk c) (hev : 0 ≤ c.ev ∧ c.ev + K ≤ 1000000000000000000) (h : cmpR c.now t ≤ 0) (hg : goF Bc Br t K c r1 0 = some (c', r1', n)) :
    DoesD Tryz.prog 81 [.one (.ow 0 0), .agg (rl t), .one (.ofn 80 [.ow 0 0] [])] [.blk T (crl c r0 r1)] [.one (.int .i64 n), .one (.int .i64 0)] [.blk T (crl c' r0 r1')] := by
  have qt : Qb t := ht.mono (by decide)
  have c1 := c_CmpR hc.n.tb qt
  refine fnD Tryz.func81 rfl ?_
  refine go tt [.c [0] (c_KNow hc.n), .c [] c1, .f (by simpa using h)] rfl trivial ?_
  refine lp (S := Nat × Cr × List (List LV) × Int) 2 (fun L1 s => (8, .v (.one (.int .i64 s.2.2.2))) :: L1) (fun s => [.blk T (crl s.2.1 r0 s.2.2.1), .blk 41 (rl t)]) (fun s => s.1) (fun s => CrOk s.2.1 ∧ (0 ≤ s.2.1.ev ∧ s.2.1.ev + s.1 ≤ 1000000000000000000) ∧ (0 ≤ s.2.2.2 ∧ s.2.2.2 + s.1 ≤ 1000000000000000000) ∧ goF Bc Br t s.1 s.2.1 s.2.2.1 s.2.2.2 = some (c', r1', n)) (K, c, r1, 0) ⟨hc, hev, ⟨Int.le_refl 0, by dsimp only; omega⟩, hg⟩ rfl (fun _ _ => rfl) rfl fun ⟨k, x, r, m⟩ ⟨j1, j2, j3, j4⟩ => ?_
  dsimp only at j1 j2 j3 j4 ⊢
  cases k with
  | zero => cases j4
  | succ k =>
    simp only [goF] at j4
    obtain ⟨ws, w1, j4⟩ := Option.bind_eq_some_iff.1 j4
    obtain ⟨o, o1, j4⟩ := Option.bind_eq_some_iff.1 j4
    have cn := c_KNext (T := T) (r0 := r0) (r1 := r) j1 w1 o1
    have ca := c_aOf (isInt_n t.num) (isInt_n (t.den : Int)) (Nat.le_trans ht.1 (by decide)) (Nat.le_trans ht.2 (by decide)) (by rw [ratOf_q]; exact ht.mono (by decide))
    rw [ratOf_q] at ca
    cases o with
    | none =>
      injection j4 with j4; injection j4 with e1 j4; injection j4 with e2 e3
      subst e1; subst e2; subst e3
      exact ed tt [] [0] [.c [0] cn, .g 25 true rfl, .t rfl, .c [] ca] rfl trivial
    | some a =>
      have ha := nxt_va j1 w1 o1
      dsimp only at j4
      have cc := c_CmpR ha.tb qt
      by_cases h0 : 0 < cmpR a t
      · rw [if_pos h0] at j4
        injection j4 with j4; injection j4 with e1 j4; injection j4 with e2 e3
        subst e1; subst e2; subst e3
        exact ed tt [] [0] [.c [0] cn, .g 25 false rfl, .c [] cc, .t (by simpa using h0), .c [] ca] rfl trivial
      · rw [if_neg h0] at j4
        obtain ⟨w2, l1, j4⟩ := Option.bind_eq_some_iff.1 j4
        have j1' := look_ok j1 w1
        have cl := c_ALeast (b := a) (l := []) ha.tb (fun t ht => by cases ht) (by decide) rfl
        have cb := hb a { x with l := ws } r ha j1'
        have cy := c_KLay1 (T := T) (r0 := r0) (r1 := Br a) j1' ha (hB.p a ha) (hB.n a ha) l1
        have hf : decide (0 < cmpR a t) = false := by simpa using h0
        refine go tt [.c [0] cn, .g 25 false rfl, .c [] cc, .f hf, .c [] cl, .c [0] cb, .c [0] cy] rfl (by simp [AllP]; omega) ?_
        exact rd (k, ⟨a, w2, x.ev + 1⟩, Br a, m + 1) (by dsimp only; omega) ⟨lay_ok _ j1' ha (hB.p a ha) (hB.n a ha) l1, by dsimp only; omega, by dsimp only; omega, j4⟩ rfl
end Orr

namespace Orr
open Go
def dvv : List Nat → Nat
  | [] => 0
  | x :: l => x + 10000 * dvv l
def Dg (l : List Nat) : Prop := ∀ x ∈ l, x < 10000
def dcs (x : Nat) : List Nat := if h : x = 0 then [] else (x % 10000) :: dcs (x / 10000)
termination_by x
decreasing_by omega
theorem dcs_zero : dcs 0 = [] := by unfold dcs; simp
theorem dcs_pos {x : Nat} (h : x ≠ 0) : dcs x = (x % 10000) :: dcs (x / 10000) := by rw [dcs]; simp [h]
theorem dvv_dig (x : Nat) : dvv (dcs x) = x := by
  induction x using Nat.strongRecOn with
  | _ x ih =>
    rcases Nat.eq_zero_or_pos x with h | h
    · subst h; rw [dcs_zero]; rfl
    · rw [dcs_pos (by omega)]
      simp only [dvv]
      rw [ih _ (by omega)]; omega
theorem dcs_lt (x : Nat) : Dg (dcs x) := by
  induction x using Nat.strongRecOn with
  | _ x ih =>
    rcases Nat.eq_zero_or_pos x with h | h
    · subst h; rw [dcs_zero]; intro y hy; cases hy
    · rw [dcs_pos (by omega)]
      intro y hy
      rcases List.mem_cons.1 hy with rfl | hy
      · omega
      · exact ih _ (by omega) y hy
theorem dcs_nil {x : Nat} : (dcs x).length = 0 ↔ x = 0 := by
  constructor
  · intro h
    have h0 := List.eq_nil_of_length_eq_zero h
    have := dvv_dig x
    rw [h0] at this
    exact this.symm
  · rintro rfl; rw [dcs_zero]; rfl
theorem dcs_div {x : Nat} (h : x ≠ 0) : (dcs (x / 10000)).length + 1 = (dcs x).length := by rw [dcs_pos h]; rfl
theorem dcs_len (x : Nat) : (dcs x).length ≤ sz x := by
  induction x using Nat.strongRecOn with
  | _ x ih =>
    by_cases h0 : x = 0
    · subst h0; rw [dcs_zero]; exact Nat.zero_le _
    · have h1 := dcs_div h0
      have h2 := ih (x / 10000) (by omega)
      have h3 : sz (x / 10000) + 1 ≤ sz x := by
        have h4 : x < 2 ^ sz x := lt_sz x
        rcases hs : sz x with _ | k
        · rw [hs] at h4; simp at h4; omega
        · rw [hs] at h4
          have : sz (x / 10000) ≤ k := sz_le.2 (by rw [Nat.pow_succ] at h4; omega)
          omega
      omega
theorem dvv_append (a b : List Nat) : dvv (a ++ b) = dvv a + 10000 ^ a.length * dvv b := by
  induction a with
  | nil => simp [dvv]
  | cons x a ih =>
    simp only [List.cons_append, dvv, ih, List.length_cons, Nat.pow_succ]
    rw [Nat.mul_add, ← Nat.mul_assoc, Nat.mul_comm 10000 (10000 ^ a.length)]; omega
theorem dvv_zero : ∀ {l : List Nat}, (∀ x ∈ l, x = 0) → dvv l = 0
  | [], _ => rfl
  | x :: l, h => by
    have h1 := h x (List.mem_cons_self ..)
    have h2 := dvv_zero (l := l) fun y hy => h y (List.mem_cons_of_mem _ hy)
    simp [dvv, h1, h2]
theorem Dg.take {l : List Nat} (h : Dg l) (k : Nat) : Dg (l.take k) := fun x hx => h x (List.mem_of_mem_take hx)
theorem Dg.snoc {l : List Nat} (h : Dg l) {x : Nat} (hx : x < 10000) : Dg (l ++ [x]) := by
  intro y hy
  rcases List.mem_append.1 hy with hy | hy
  · exact h y hy
  · rw [List.mem_singleton.1 hy]; exact hx
theorem Dg.nil : Dg [] := fun x h => by cases h
/-- a row without a nought on top is that of its number -/
theorem dcs_of : ∀ {l : List Nat}, Dg l → (∀ x, l[l.length - 1]? = some x → x ≠ 0) → l = dcs (dvv l)
  | [], _, _ => by rw [dvv, dcs_zero]
  | x :: l, h, hl => by
    have h1 := h x (List.mem_cons_self ..)
    have h2 : l = dcs (dvv l) := dcs_of (fun y hy => h y (List.mem_cons_of_mem _ hy)) fun y hy => hl y (by
      rcases l with _ | ⟨z, t⟩
      · simp at hy
      · simpa using hy)
    have h3 : x + 10000 * dvv l ≠ 0 := by
      intro e
      have hx : x = 0 := by omega
      have hd : dvv l = 0 := by omega
      rw [hd, dcs_zero] at h2
      subst h2
      exact hl x rfl hx
    simp only [dvv]
    rw [dcs_pos h3, show (x + 10000 * dvv l) % 10000 = x by omega, show (x + 10000 * dvv l) / 10000 = dvv l by omega, ← h2]
theorem dcs_take {l : List Nat} {m : Nat} (hd : Dg l) (hm : m ≤ l.length) (h1 : ∀ j x, m ≤ j → l[j]? = some x → x = 0) (h2 : 0 < m → ∃ y, l[m - 1]? = some y ∧ y ≠ 0) : l.take m = dcs (dvv l) := by
  have e : dvv l = dvv (l.take m) := by
    conv => lhs; rw [← List.take_append_drop m l, dvv_append]
    rw [dvv_zero (l := l.drop m) fun x hx => ?_]
    · omega
    · obtain ⟨j, hj⟩ := List.mem_iff_getElem?.1 hx
      rw [List.getElem?_drop] at hj
      exact h1 (m + j) x (by omega) hj
  rw [e]
  refine dcs_of (hd.take m) fun x hx => ?_
  have hl : (l.take m).length = m := by rw [List.length_take]; omega
  rw [hl] at hx
  rcases Nat.eq_zero_or_pos m with h0 | h0
  · subst h0; simp at hx
  · obtain ⟨y, hy, hy0⟩ := h2 h0
    rw [List.getElem?_take_of_lt (by omega), hy] at hx
    injection hx with hx; rw [← hx]; exact hy0
theorem dvv_drop {l : List Nat} {j d : Nat} (h : l[j]? = some d) : dvv (l.drop j) = d + 10000 * dvv (l.drop (j + 1)) := by
  obtain ⟨hj, he⟩ := List.getElem?_eq_some_iff.1 h
  rw [List.drop_eq_getElem_cons hj, he]; rfl
theorem ddrop_set {l : List Nat} {j y : Nat} (h : j < l.length) : (l.set j y).drop j = y :: l.drop (j + 1) := by
  rw [List.drop_eq_getElem_cons (by simpa using h)]
  simp only [List.getElem_set_self]
  rw [List.drop_set_of_lt (by omega)]
theorem Dg.set {l : List Nat} (h : Dg l) {j y : Nat} (hy : y < 10000) : Dg (l.set j y) := by
  intro x hx
  rcases List.mem_or_eq_of_mem_set hx with hx | rfl
  · exact h x hx
  · exact hy
theorem Dg.zeros (n : Nat) : Dg (List.replicate n 0) := by
  intro x hx; rw [List.eq_of_mem_replicate hx]; decide
/-- one step of a division from above -/
theorem div_step {V kd d : Nat} (hk : 0 < kd) : (d + 10000 * V) / kd = (V % kd * 10000 + d) / kd + 10000 * (V / kd) ∧ (d + 10000 * V) % kd = (V % kd * 10000 + d) % kd ∧ (d < 10000 → (V % kd * 10000 + d) / kd < 10000) := by
  have e := Nat.div_add_mod V kd
  have e2 : d + 10000 * V = (V % kd * 10000 + d) + kd * (10000 * (V / kd)) := by
    conv => lhs; rw [← e]
    grind
  refine ⟨?_, ?_, fun hd => ?_⟩
  · rw [e2, Nat.add_mul_div_left _ _ hk]
  · rw [e2, Nat.add_mul_mod_self_left]
  · have := Nat.mod_lt V hk
    exact (Nat.div_lt_iff_lt_mul hk).2 (by grind)
/-- a row of digits, as a leaf -/
def dl (l : List Nat) : LV := .row (l.map fun (x : Nat) => [.int .i64 (x : Int)])
theorem dlm_len (l : List Nat) : (l.map fun (x : Nat) => [LV.int .i64 (x : Int)]).length = l.length := by simp
theorem dlm_get {l : List Nat} {i x : Nat} (h : l[i]? = some x) : (l.map fun (x : Nat) => [LV.int .i64 (x : Int)])[i]? = some [.int .i64 (x : Int)] := by rw [List.getElem?_map, h]; rfl
abbrev nd (x : Nat) : LV := dl (dcs x)
end Orr

namespace Orr
open Go Go.Proofs
set_option maxRecDepth 10000
abbrev dlm (l : List Nat) : List (List LV) := l.map fun (x : Nat) => [.int .i64 (x : Int)]
theorem c_fcut {l : List Nat} (hd : Dg l) : Does Tryz.prog 162 [.one (.row (dlm l))] [.one (nd (dvv l))] := by
  refine fnD Tryz.func162 rfl (ln 0 rfl rfl fun hl => ?_)
  rw [List.length_map] at hl
  refine go tt [] rfl trivial ?_
  refine lp (S := Nat) 0 (fun L1 n => (3, .v (.one (.int .i64 (n : Int)))) :: L1) (fun _ => []) id (fun n => n ≤ l.length ∧ ∀ j x, n ≤ j → l[j]? = some x → x = 0) (dlm l).length ⟨by simp, fun j x h1 h2 => by
    have := (List.getElem?_eq_some_iff.1 h2).1; simp at h1; omega⟩ rfl (fun _ _ => rfl) rfl fun n ⟨h1, h2⟩ => ?_
  cases n with
  | zero => exact en tt [.g 8 false (by simp), .f rfl, .i 0] rfl (by have := dcs_take hd h1 h2 (fun h => by omega); unfold nd; rw [← this]; simp [dl]) (by simp [AllP])
  | succ n =>
    obtain ⟨x, hx⟩ : ∃ x, l[n]? = some x := ⟨_, List.getElem?_eq_getElem (by omega)⟩
    by_cases h0 : x = 0
    · refine go tt [.g 8 true (by simp), .r 11 (v := .one (.int .i64 (n : Int))) (by simp), .x (dlm_get hx), .t (by simp [h0]), .r 17 (v := .one (.int .i64 (n : Int))) (by simp)] rfl (by simp [AllP]; omega) ?_
      exact rd n (by simp) ⟨by omega, fun j y h3 h4 => by
          rcases Nat.eq_or_lt_of_le h3 with rfl | h3
          · rw [hx] at h4; injection h4 with h4; rw [← h4, h0]
          · exact h2 j y h3 h4⟩ rfl
    · exact en tt [.g 8 true (by simp), .r 11 (v := .one (.int .i64 (n : Int))) (by simp), .x (dlm_get hx), .f (by simp [h0]), .i (n + 1)] rfl (by have := dcs_take hd h1 h2 (fun _ => ⟨x, hx, h0⟩); unfold nd; rw [← this]; simp [dl, List.map_take]) (by simp [AllP] <;> omega)
/-- a division by a small number -/
theorem c_small {x kd : Nat} (hxs : sz x ≤ 100000000) (hk : 0 < kd ∧ kd ≤ 65536) : Does Tryz.prog 161 [.one (nd x), .one (.int .i64 (kd : Int))] [.one (nd (x / kd)), .one (.int .i64 ((x % kd : Nat) : Int))] := by
  have hln := Nat.le_trans (dcs_len x) hxs
  obtain ⟨l, hl⟩ : ∃ l, l = dcs x := ⟨_, rfl⟩
  have hx : dvv l = x := by rw [hl, dvv_dig]
  have hd : Dg l := by rw [hl]; exact dcs_lt x
  show Does Tryz.prog 161 [.one (.row (dlm (dcs x))), .one (.int .i64 (kd : Int))] _
  rw [← hl] at hln ⊢
  rw [← hx]
  have hll := dlm_len l
  refine fnD Tryz.func161 rfl ?_
  refine go tt [.i (dlm l).length, .i (dlm l).length] rfl (by simp [AllP]; omega) ?_
  rw [hll, show List.replicate l.length [LV.int .i64 0] = dlm (List.replicate l.length 0) from by simp [dlm]]
  refine lp (S := Nat × List Nat × Nat) 1 (fun L1 s => (8, .v (.one (.int .i64 ((s.1 : Int) - 1)))) :: (7, .v (.one (.int .i64 (s.2.2 : Int)))) :: L1) (fun s => [.row false 3 1 (dlm s.2.1)]) (fun s => s.1) (fun s => s.1 ≤ l.length ∧ s.2.1.length = l.length ∧ Dg s.2.1 ∧ dvv (s.2.1.drop s.1) = dvv (l.drop s.1) / kd ∧ s.2.2 = dvv (l.drop s.1) % kd) (l.length, List.replicate l.length 0, 0) ⟨Nat.le_refl _, by simp, Dg.zeros _, by simp [dvv], by simp [dvv]⟩ rfl (fun _ _ => rfl) rfl fun ⟨k, o, R⟩ ⟨j1, j2, j3, j4, hR⟩ => ?_
  dsimp only at j1 j2 j3 j4 hR ⊢
  cases k with
  | zero =>
    have cc := c_fcut j3
    rw [List.drop_zero, List.drop_zero] at j4
    rw [j4] at cc
    exact en tt [.f (by simp), .c [] cc] rfl (by rw [hR, List.drop_zero]) trivial
  | succ k =>
    obtain ⟨d, hdk⟩ : ∃ d, l[k]? = some d := ⟨_, List.getElem?_eq_getElem (by omega)⟩
    have hd0 := hd d (List.mem_of_getElem? hdk)
    have hdd := dvv_drop hdk
    obtain ⟨s1, s2, s3⟩ := div_step (V := dvv (l.drop (k + 1))) (kd := kd) (d := d) hk.1
    rw [← hdd] at s1 s2
    have hr := Nat.mod_lt (dvv (l.drop (k + 1))) hk.1
    rw [← hR] at s1 s2 s3 hr
    have e : ((k + 1 : Nat) : Int) - 1 = (k : Int) := by omega
    have htd : ((R : Int) * 10000 + (d : Int)).tdiv (kd : Int) = (((R * 10000 + d) / kd : Nat) : Int) := rfl
    have hle := Nat.div_le_self (R * 10000 + d) kd
    have htb : 0 ≤ ((R : Int) * 10000 + (d : Int)).tdiv (kd : Int) ∧ ((R : Int) * 10000 + (d : Int)).tdiv (kd : Int) ≤ 655369999 := by
      rw [htd]; revert hle; generalize (R * 10000 + d) / kd = Q; intro hle; omega
    rw [e]
    refine go tt [.t (by simp), .x (dlm_get hdk), .r 26 (eI (b := ((R * 10000 + d : Nat) : Int)) (by omega)), .r 31 (eI (b := (((R * 10000 + d) / kd : Nat) : Int)) (by rfl)), .i k, .r 35 (eI (b := (((R * 10000 + d) % kd : Nat) : Int)) (by rfl))] rfl (by simp [AllP]; omega) ?_
    exact rd (k, o.set k ((R * 10000 + d) / kd), (R * 10000 + d) % kd) (by dsimp only; omega) ⟨by dsimp only; omega, by simp [j2], j3.set (s3 hd0), by dsimp only; rw [ddrop_set (by omega)]; simp only [dvv]; rw [j4, s1], by dsimp only; exact s2.symm⟩ (by simp [dlm, List.map_set]; rfl)
theorem sz_div (x k : Nat) : sz (x / k) ≤ sz x := sz_mono (Nat.div_le_self _ _)
theorem limbs_snoc {x y : Nat} {o : List Nat} (h : limbs x = o ++ limbs y) (h0 : y ≠ 0) : limbs x = (o ++ [y % 4294967296]) ++ limbs (y / 4294967296) := by
  rw [h, limbs_pos h0]; simp
theorem lm_snoc (o : List Nat) (z : Nat) : lm (o ++ [z]) = lm o ++ [[.int .u32 (z : Int)]] := by simp [lm]
theorem c_ToN {x : Nat} (hx : sz x ≤ 100000000) : Does Tryz.prog 96 [.one (nd x)] [lr (limbs x)] := by
  have hlx := limbs_len hx
  refine fnD Tryz.func96 rfl ?_
  refine go tt [.o 3 169 1] rfl trivial ?_
  refine lp (S := Nat × List Nat) 1 (fun L1 s => (0, .v (.one (nd s.1))) :: (3, .v (.one (.orow 0 1 none))) :: L1) (fun s => [.row false 169 1 (lm s.2)]) (fun s => s.1) (fun s => limbs x = s.2 ++ limbs s.1 ∧ s.1 ≤ x) (x, []) ⟨rfl, Nat.le_refl _⟩ rfl (fun _ _ => rfl) rfl fun ⟨y, o⟩ ⟨j1, j2⟩ => ?_
  dsimp only at j1 j2 ⊢
  by_cases h0 : y = 0
  · subst h0
    rw [limbs_zero, List.append_nil] at j1
    rw [j1]
    exact en tt [.f (by simp [dcs_zero])] rfl rfl trivial
  · have hs := limbs_snoc j1 h0
    have hsy : sz y ≤ 100000000 := Nat.le_trans (sz_mono j2) hx
    have c1 := c_small (x := y) (kd := 65536) hsy (by decide)
    have c2 := c_small (x := y / 65536) (kd := 65536) (Nat.le_trans (sz_div _ _) hsy) (by decide)
    have hl : (dcs y).length ≠ 0 := fun h => h0 (dcs_nil.1 h)
    have ol : o.length ≤ (limbs x).length := by rw [j1]; simp
    have e : y / 65536 % 65536 * 65536 + y % 65536 = y % 4294967296 := by omega
    have e2 : y / 65536 / 65536 = y / 4294967296 := by omega
    refine go tt [.t (by simp; omega), .c [] c1, .c [] c2, .r 26 (e32 (b := ((y % 4294967296 : Nat) : Int)) (by omega)), .s (sz := 1) (l := [[.int .u32 ((y % 4294967296 : Nat) : Int)]]) (fun c hc => by rw [List.mem_singleton.1 hc]; rfl)] rfl (by simp [AllP, lm_len]; omega) ?_
    rw [← e2] at hs
    exact rd (y / 65536 / 65536, o ++ [y % 4294967296]) (by dsimp only; omega) ⟨hs, by dsimp only; omega⟩ (by rw [lm_snoc]; rfl)
/-- a whole number of the reference -/
abbrev ri (z : Int) : List LV := [nd z.natAbs, sg z]
theorem ri_mk (b : Bool) (m : Nat) : [nd m, LV.bool (b && decide (0 < m))] = ri (ofSign b m) := by
  simp only [ri, sg, ofSign_natAbs, ofSign_neg]
theorem nd_len (x : Nat) : (0 < (dcs x).length) ↔ 0 < x := by
  have := dcs_nil (x := x); omega
theorem c_fmade (b : Bool) (m : Nat) : Does Tryz.prog 97 [.one (nd m), .one (.bool b)] [.agg (ri (ofSign b m))] := by
  rw [← ri_mk]
  have e := nd_len m
  cases b with
  | false => exact w tt Tryz.func97 rfl [.g 7 false rfl] rfl rfl trivial
  | true => exact w tt Tryz.func97 rfl [.g 7 true rfl] rfl (by simp [e]) trivial
theorem c_fZero {z : Int} : Does Tryz.prog 139 [.agg (ri z)] [.one (.bool (decide (z = 0)))] :=
  w tt Tryz.func139 rfl [] rfl (by have h := dcs_nil (x := z.natAbs); simp only [dlm_len]; congr 3; rw [decide_eq_decide]; omega) trivial
theorem c_To {z : Int} (hz : isz z ≤ 100000000) : Does Tryz.prog 46 [.agg (ri z)] [.agg (ofI z)] :=
  w tt Tryz.func46 rfl [.c [] (c_ToN hz)] rfl rfl trivial
theorem eBo {a b : Bool} (h : a = b) : TV.one (LV.bool a) = .one (.bool b) := h ▸ rfl
theorem dlm_app (l : List Nat) (x : Nat) : dlm (l ++ [x]) = dlm l ++ [[.int .i64 (x : Int)]] := by simp [dlm]
theorem dcs_snoc {x y : Nat} {o : List Nat} (h : dcs x = o ++ dcs y) (h0 : y ≠ 0) : dcs x = (o ++ [y % 10000]) ++ dcs (y / 10000) := by
  rw [h, dcs_pos h0]; simp
theorem c_fOf' {b : Bool} {x : Nat} (hx : x ≤ 4000000000000000000) (hb : b = true → 0 < x) : Does Tryz.prog 49 [.one (.int .i64 (ofSign b x))] [.agg (ri (ofSign b x))] := by
  have hl : (dcs x).length ≤ 100 := by
    have := dcs_len x
    have h2 : sz x ≤ 64 := sz_le.2 (by omega)
    omega
  have hm := c_fmade b x
  refine fnD Tryz.func49 rfl ?_
  cases b with
  | false =>
    show AK Tryz.prog _ _ _ (argsA 0 [.one (.int .i64 (x : Int))]) []
    refine go tt [.f (by simp <;> omega), .r 3 (eBo (b := false) (by simp)), .f rfl, .o 4 3 1] rfl trivial ?_
    refine lp (S := Nat × List Nat) 2 (fun L1 s => (0, .v (.one (.int .i64 (s.1 : Int)))) :: (4, .v (.one (.orow 1 1 none))) :: L1) (fun s => [.blk 47 [.nils, .bool false], .row false 3 1 (dlm s.2)]) (fun s => s.1) (fun s => dcs x = s.2 ++ dcs s.1 ∧ s.1 ≤ x) (x, []) ⟨rfl, Nat.le_refl _⟩ rfl (fun _ _ => rfl) rfl fun ⟨y, o⟩ ⟨j1, j2⟩ => ?_
    dsimp only at j1 j2 ⊢
    by_cases h0 : y = 0
    · subst h0
      rw [dcs_zero, List.append_nil] at j1
      rw [← j1]
      exact en tt [.f (by simp), .c [] hm] rfl rfl trivial
    · have hs := dcs_snoc j1 h0
      have ol : o.length ≤ (dcs x).length := by rw [j1]; simp
      refine go tt [.t (by simp; omega), .r 18 (eI (b := ((y % 10000 : Nat) : Int)) (by rfl)), .s (sz := 1) (l := [[.int .i64 ((y % 10000 : Nat) : Int)]]) (fun c hc => by rw [List.mem_singleton.1 hc]; rfl), .r 22 (eI (b := ((y / 10000 : Nat) : Int)) (by rfl))] rfl (by simp [AllP, dlm_len]; omega) ?_
      exact rd (y / 10000, o ++ [y % 10000]) (by dsimp only; omega) ⟨hs, by dsimp only; omega⟩ (by rw [dlm_app]; rfl)
  | true =>
    show AK Tryz.prog _ _ _ (argsA 0 [.one (.int .i64 (-(x : Int)))]) []
    refine go tt [.f (by simp <;> omega), .r 3 (eBo (b := true) (by simpa using hb rfl)), .t rfl, .r 0 (eI (b := (x : Int)) (by omega)), .o 4 3 1] rfl (by simp [AllP]; omega) ?_
    refine lp (S := Nat × List Nat) 2 (fun L1 s => (0, .v (.one (.int .i64 (s.1 : Int)))) :: (4, .v (.one (.orow 1 1 none))) :: L1) (fun s => [.blk 47 [.nils, .bool false], .row false 3 1 (dlm s.2)]) (fun s => s.1) (fun s => dcs x = s.2 ++ dcs s.1 ∧ s.1 ≤ x) (x, []) ⟨rfl, Nat.le_refl _⟩ rfl (fun _ _ => rfl) rfl fun ⟨y, o⟩ ⟨j1, j2⟩ => ?_
    dsimp only at j1 j2 ⊢
    by_cases h0 : y = 0
    · subst h0
      rw [dcs_zero, List.append_nil] at j1
      rw [← j1]
      exact en tt [.f (by simp), .c [] hm] rfl rfl trivial
    · have hs := dcs_snoc j1 h0
      have ol : o.length ≤ (dcs x).length := by rw [j1]; simp
      refine go tt [.t (by simp; omega), .r 18 (eI (b := ((y % 10000 : Nat) : Int)) (by rfl)), .s (sz := 1) (l := [[.int .i64 ((y % 10000 : Nat) : Int)]]) (fun c hc => by rw [List.mem_singleton.1 hc]; rfl), .r 22 (eI (b := ((y / 10000 : Nat) : Int)) (by rfl))] rfl (by simp [AllP, dlm_len]; omega) ?_
      exact rd (y / 10000, o ++ [y % 10000]) (by dsimp only; omega) ⟨hs, by dsimp only; omega⟩ (by rw [dlm_app]; rfl)
theorem c_fOf {n : Int} (hn : -4000000000000000000 ≤ n ∧ n ≤ 4000000000000000000) : Does Tryz.prog 49 [.one (.int .i64 n)] [.agg (ri n)] := by
  have e : ofSign (decide (n < 0)) n.natAbs = n := by unfold ofSign; by_cases h : n < 0 <;> simp [h] <;> omega
  have h := c_fOf' (b := decide (n < 0)) (x := n.natAbs) (by omega) (fun h => by have := of_decide_eq_true h; omega)
  rwa [e] at h
end Orr

namespace Orr
open Go Go.Proofs
set_option maxRecDepth 10000
abbrev fr (q : Rat) : List LV := ri q.num ++ ri (q.den : Int)
theorem dcs_one : dcs 1 = [1] := by rw [dcs_pos (by decide)]; rw [dcs_zero]
theorem c_fMake1 {n : Int} : Does Tryz.prog 83 [.agg (ri n), .agg (ri 1)] [.agg (fr (n : Rat))] := by
  have h0 : (dlm (dcs (1 : Int).natAbs))[0]? = some [LV.int .i64 1] := by rw [show (1 : Int).natAbs = 1 from rfl, dcs_one]; rfl
  have h1 : decide (((dlm (dcs (1 : Int).natAbs)).length : Int) = 1) = true := by rw [show (1 : Int).natAbs = 1 from rfl, dcs_one]; rfl
  exact w tt Tryz.func83 rfl [.c [] (c_fZero (z := 1)), .f rfl, .f rfl, .g 19 true h1, .x h0, .t rfl] rfl rfl trivial
theorem c_OfR1 {n : Int} (hn : -4000000000000000000 ≤ n ∧ n ≤ 4000000000000000000) : Does Tryz.prog 22 [.one (.int .i64 n), .one (.int .i64 1)] [.agg (fr (n : Rat))] :=
  w tt Tryz.func22 rfl [.c [] (c_fOf hn), .c [] (c_fOf (n := 1) (by decide)), .c [] c_fMake1] rfl rfl trivial
theorem c_ToR {q : Rat} (hq : Qs 100000000 q) : Does Tryz.prog 21 [.agg (fr q)] [.agg (rl q)] :=
  w tt Tryz.func21 rfl [.c [] (c_To hq.1), .c [] (c_To hq.2)] rfl rfl trivial
end Orr

namespace Orr
open Go Go.Proofs Orq
set_option maxRecDepth 10000
end Orr

namespace Orr
open Go Go.Proofs Orq
set_option maxRecDepth 10000
abbrev idl (l : List Int) : List (List LV) := l.map fun (z : Int) => [.int .i64 z]
theorem idl_get {l : List Int} {i : Nat} {z : Int} (h : l[i]? = some z) : (idl l)[i]? = some [.int .i64 z] := map_get h
/-- any number as one from 0 to n - 1 -/
def wthn (v n : Int) : Int := if n < 1 then 0 else v.emod n
theorem tmod_emod {v n : Int} (h : 0 < n) : (if v.tmod n < 0 then v.tmod n + n else v.tmod n) = v % n := by
  have h3 := Int.emod_nonneg v (show n ≠ 0 by omega)
  have h4 := Int.emod_lt_of_pos v h
  have h1 := Int.tmod_eq_emod (a := v) (b := n)
  have hn : ((n.natAbs : Nat) : Int) = n := by omega
  split at h1
  · rw [h1]; simp; omega
  · rename_i hc
    rw [h1, hn]
    have : v % n ≠ 0 := fun e => hc (.inr (Int.dvd_of_emod_eq_zero e))
    rw [if_pos (by omega)]; omega
theorem c_Within {v n : Int} (hv : -9223372036854775808 ≤ v ∧ v ≤ 9223372036854775807) (hn : n ≤ 1000000000) : Does Tryz.prog 15 [.one (.int .i64 v), .one (.int .i64 n)] [.one (.int .i64 (wthn v n))] := by
  unfold wthn
  by_cases h : n < 1
  · rw [if_pos h]
    exact w tt Tryz.func15 rfl [.t (by simpa using h)] rfl rfl trivial
  · rw [if_neg h]
    have e := tmod_emod (v := v) (n := n) (by omega)
    have h3 := Int.emod_nonneg v (show n ≠ 0 by omega)
    have h4 := Int.emod_lt_of_pos v (show 0 < n by omega)
    show Does Tryz.prog 15 [.one (.int .i64 v), .one (.int .i64 n)] [.one (.int .i64 (v % n))]
    by_cases h0 : v.tmod n < 0
    · rw [if_pos h0] at e
      have b : -n ≤ v.tmod n := by omega
      exact w tt Tryz.func15 rfl [.f (by simpa using h), .t (by simpa using h0)] rfl (by rw [e]) (by simp [AllP]; omega)
    · rw [if_neg h0] at e
      exact w tt Tryz.func15 rfl [.f (by simpa using h), .f (by simpa using h0)] rfl (by rw [e]) (by simp [AllP]; omega)
end Orr

namespace Orr
def SortedP (l : List Pt) : Prop := l.Pairwise fun a b => a.id < b.id
theorem has_nil (id : Int) : has [] id = false := rfl
theorem has_cons (p : Pt) (l : List Pt) (id : Int) : has (p :: l) id = if p.id < id then has l id else decide (p.id = id) := by
  by_cases h : p.id < id
  · rw [if_pos h]; unfold has; simp only [pos]; rw [if_pos h]; simp
  · rw [if_neg h]; unfold has; simp only [pos]; rw [if_neg h]; simp
theorem put_cons (p : Pt) (l : List Pt) (q : Pt) : put (p :: l) q = if p.id < q.id then p :: put l q else q :: p :: l := by
  unfold put
  simp only [pos]
  split <;> simp
theorem has_iff : ∀ {l : List Pt} {id : Int}, SortedP l → (has l id = true ↔ ∃ p ∈ l, p.id = id)
  | [], id, _ => by simp [has_nil]
  | p :: l, id, h => by
    have h1 := List.pairwise_cons.1 h
    rw [has_cons]
    split
    · rename_i hlt
      rw [has_iff h1.2]
      constructor
      · rintro ⟨x, hx, e⟩; exact ⟨x, List.mem_cons_of_mem _ hx, e⟩
      · rintro ⟨x, hx, e⟩
        rcases List.mem_cons.1 hx with rfl | hx
        · omega
        · exact ⟨x, hx, e⟩
    · rename_i hge
      rw [decide_eq_true_iff]
      constructor
      · intro e; exact ⟨p, List.mem_cons_self .., e⟩
      · rintro ⟨x, hx, e⟩
        rcases List.mem_cons.1 hx with rfl | hx
        · exact e
        · have := h1.1 x hx; omega
theorem putE_few {l : List Pt} {q : Pt} (h : l.length < 6) : putE l q = if has l q.id = true then 6 else 0 := by
  unfold putE
  split
  · rfl
  · rw [if_neg (by omega)]
end Orr

namespace Orr
open Go Go.Proofs Orq
theorem sc_still {x y : Int} (hx : -9223372036854775808 ≤ x ∧ x ≤ 9223372036854775807) (hy : -9223372036854775808 ≤ y ∧ y ≤ 9223372036854775807) : Sc (still x y) := ⟨Crv.nml _, ((cs_still hx hy).norm (by decide)).mono (by decide) (by decide)⟩
theorem Sc.pt {p : Pt} (h : Sc p.c) : PtOk 4294967294 1073741824 p := ⟨h.n, h.c.mono (by decide) (by decide)⟩
end Orr

namespace Orr
open Go Go.Proofs Orq
set_option maxRecDepth 10000
def bcP (l : List Pt) (a : Tm) : List Ct := pairC (sgA a) l
abbrev brP (l : List Pt) (a : Tm) : List (List LV) := ptrow (pairB (sgA a) l)
theorem bcP_all {l : List Pt} {a : Tm} : ∀ x ∈ bcP l a, x.p ∈ allF l := fun x hx => by
  match l, hx with
  | u :: v :: l', hx =>
    unfold bcP at hx
    simp only [pairC] at hx
    obtain ⟨h3, h4⟩ := nearest_mem (sgA a) (l := u :: v :: l') (pairsOf (u :: v :: l')) (u, v) ⟨by simp, by simp⟩ (pairsK_mem _ _)
    obtain ⟨m, hm, rfl⟩ := dists_mem hx
    obtain ⟨h1, h2⟩ := pairsK_mem _ _ m hm
    rw [mkDist_p]
    exact allF_mem h3 h4 h1 h2
theorem bcP_ok {l : List Pt} (hl : ∀ p ∈ l, Sc p.c) (hn : l.length ≤ 10) : BuildOk (bcP l) :=
  ⟨fun _ _ x hx => allF_cp hl _ (bcP_all x hx), fun a _ => by
    have := pairC_len (sgA a) l
    have : l.length * l.length ≤ 10 * 10 := Nat.mul_le_mul hn hn
    show (pairC (sgA a) l).length ≤ 1000
    omega⟩
def begP (l : List Pt) (a : Tm) : Cr := ⟨a, (sortC (bcP l a)).map fresh, 0⟩
theorem c_PaNew {zs : List (List LV)} {qs l : List Pt} {x y x' y' : LV} {n d : Int} (hz : IsPts 4294967294 1073741824 zs qs) (hq : qs.length ≤ 6) (hnl : newL [] qs = (l, 0)) (hl : ∀ p ∈ l, Sc p.c) (hn : l.length ≤ 10) (h1 : IsInt x y n) (h2 : IsInt x' y' d) (bn : isz n ≤ 4294967295) (bd : isz d ≤ 4294967295) (ht : Qs 900 (ratOf n d)) :
    DoesD Tryz.prog 19 [.agg [x, y, x', y'], .one (.row zs)] [] [.one (.ow 0 0), .one (.int .i64 0)] [.blk 74 (crl (begP l (tq (ratOf n d))) (ptrow l) (brP l (tq (ratOf n d))))] := by
  have cn := c_New hz hq
  rw [hnl] at cn
  have co := c_aOf h1 h2 bn bd (ht.mono (by decide))
  have hv := va_q ht
  have hB := bcP_ok hl hn
  have cb := c_PBuild0 hl hn hv
  have cg := c_KBegin0 (T := 74) (r0 := ptrow l) (r1 := brP l (tq (ratOf n d))) hv (hB.p _ hv) (hB.n _ hv)
  obtain ⟨b, l1, rfl, rfl, _⟩ := h1
  obtain ⟨b', l2, rfl, rfl, _⟩ := h2
  refine fnD Tryz.func19 rfl ?_
  exact ed tt [] [2] [.c [] cn, .f rfl, .c [] co, .c [2] cb, .c [2] cg] rfl trivial
theorem c_PaAdv {t : Rat} {l : List Pt} {K : Nat} {c c' : Cr} {r1 r1' : List (List LV)} {n : Int} (ht : Qs 900 t) (hl : ∀ p ∈ l, Sc p.c) (hn : l.length ≤ 10) (hc : CrOk c) (hev : 0 ≤ c.ev ∧ c.ev + K ≤ 1000000000000000000) (h : cmpR c.now t ≤ 0) (hg : goF (bcP l) (brP l) t K c r1 0 = some (c', r1', n)) :
    DoesD Tryz.prog 20 [.one (.ow 0 0), .agg (rl t)] [.blk 74 (crl c (ptrow l) r1)] [.one (.int .i64 n), .one (.int .i64 0)] [.blk 74 (crl c' (ptrow l) r1')] := by
  have cg := c_KGoP (T := 74) (r0 := ptrow l) ht (bcP_ok hl hn) (fun a c r1 ha _ => c_PBuild1 (c := c) (r1 := r1) hl hn ha) hc hev h hg
  refine fnD Tryz.func20 rfl ?_
  exact ed tt [] [0] [.c [] (c_rMaxQ (ht.mono (by decide))), .c [0] cg] rfl trivial
theorem c_PaIds {c : Cr} {r0 : List (List LV)} {a b : Pt} : DoesD Tryz.prog 23 [.one (.ow 0 0)] [.blk 74 (crl c r0 (ptrow [a, b]))] [.one (.int .i64 a.id), .one (.int .i64 b.id), .one (.bool true)] [.blk 74 (crl c r0 (ptrow [a, b]))] := by
  refine fnD Tryz.func23 rfl ?_
  exact ed tt [] [0] [.f rfl, .x (l := ptrow [a, b]) (i := 0) (xs := ofPt a) rfl, .x (l := ptrow [a, b]) (i := 1) (xs := ofPt b) rfl] rfl trivial
theorem c_PaIds0 {c : Cr} {r0 : List (List LV)} : DoesD Tryz.prog 23 [.one (.ow 0 0)] [.blk 74 (crl c r0 [])] [.one (.int .i64 0), .one (.int .i64 0), .one (.bool false)] [.blk 74 (crl c r0 [])] := by
  refine fnD Tryz.func23 rfl ?_
  exact ed tt [] [0] [.t rfl] rfl trivial
theorem pair_two (sg : List Int → Int) (p q : Pt) : pairB sg [p, q] = [p, q] ∧ pairC sg [p, q] = [] := by
  have hp : pairsOf [p, q] = [(p, q)] := rfl
  have h : nearest sg (p, q) (pairsOf [p, q]) = (p, q) := by
    rw [hp, nearest_cons]
    have e : nearer sg (p, q) (p, q) = (p, q) := by rcases nearer_or sg (p, q) (p, q) with e | e <;> exact e
    rw [e]; rfl
  constructor
  · show [(nearest sg (p, q) (pairsOf [p, q])).1, (nearest sg (p, q) (pairsOf [p, q])).2] = [p, q]
    rw [h]
  · show dists sg (nearest sg (p, q) (pairsOf [p, q])) (pairsOf [p, q]) = []
    rw [h, hp]
    have e := dists_f (sg := sg) (s := (p, q)) (m := (p, q)) (ps := []) (by simp [other])
    rw [List.nil_append] at e
    rw [e]; rfl
theorem d_wakes21 : Does Tryz.prog 24 [] [.one (.bool true)] := by
  have hq : Qs 900 (ratOf 0 0) := ⟨by decide, by decide⟩
  have ez : ratOf 0 0 = 0 := by decide
  obtain ⟨A, hA⟩ : ∃ A : Pt, A = ⟨still 0 0, 3⟩ := ⟨_, rfl⟩
  obtain ⟨B, hB⟩ : ∃ B : Pt, B = ⟨still 5 1, 2⟩ := ⟨_, rfl⟩
  have sA : Sc A.c := by rw [hA]; exact sc_still (by decide) (by decide)
  have sB : Sc B.c := by rw [hB]; exact sc_still (by decide) (by decide)
  have hsc : ∀ p ∈ [B, A], Sc p.c := fun p hp => by
    rcases List.mem_cons.1 hp with rfl | hp
    · exact sB
    · rw [List.mem_singleton.1 hp]; exact sA
  have zp : IsPts 4294967294 1073741824 (ptrow [A, B]) [A, B] := isPts_n fun p hp => by
    rcases List.mem_cons.1 hp with rfl | hp
    · exact sA.pt
    · rw [List.mem_singleton.1 hp]; exact sB.pt
  have hnl : newL [] [A, B] = ([B, A], 0) := by rw [hA, hB]; rfl
  have cn := c_PaNew zp (by show 2 ≤ 6; decide) hnl hsc (by show 2 ≤ 10; decide) isInt_zero isInt_zero (by decide) (by decide) hq
  rw [ez] at cn
  have hv : Va (tq 0) := va_q (by rw [← ez]; exact hq)
  obtain ⟨e1, e2⟩ := pair_two (sgA (tq 0)) B A
  have hbr : brP [B, A] (tq 0) = ptrow [B, A] := by unfold brP; rw [e1]
  have hbc : begP [B, A] (tq 0) = ⟨tq 0, [], 0⟩ := by unfold begP bcP; rw [e2]; rfl
  rw [hbr, hbc] at cn
  have hok : CrOk ⟨tq 0, [], 0⟩ := ⟨hv, fun w hw => (by cases hw), by decide⟩
  have cc := c_KCerts (T := 74) (r0 := ptrow [B, A]) (r1 := ptrow [B, A]) hok
  have ci := c_PaIds (c := ⟨tq 0, [], 0⟩) (r0 := ptrow [B, A]) (a := B) (b := A)
  have i1 : A.id = 3 := by rw [hA]
  have i2 : B.id = 2 := by rw [hB]
  rw [i1, i2] at ci
  have cs1 := c_Still (x := 0) (y := 0) (by decide) (by decide)
  have cs2 := c_Still (x := 5) (y := 1) (by decide) (by decide)
  subst hA; subst hB
  refine fnD Tryz.func24 rfl ?_
  exact en tt [.c [] cs1, .c [] cs2, .c [0] cn, .g 18 false rfl, .f rfl, .c [0] ci, .g 29 true rfl, .g 33 true rfl, .g 37 true rfl, .c [0] cc] rfl rfl trivial
end Orr

namespace Orr
open Go
end Orr

namespace Orq
open Orr Go
end Orq
namespace Orr
open Orq Go
end Orr

namespace Orr
open Orq
end Orr
namespace Orq
open Orr Go
theorem bd_small' {l : List Int} (h : ∀ z ∈ l, z.natAbs < 2 ^ 60) : Bd 80 l := fun z hz => by
  have := h z hz
  exact Nat.le_trans (isz_le.2 (by omega : z.natAbs < 2 ^ 60)) (by decide)
theorem nml_one {x y : List Int} (hx : Trim x) (hy : Trim y) : Nml ⟨x, y, 1⟩ := by
  refine ⟨hx, hy, by show (0 : Int) < 1; decide, ?_⟩
  have := gcdL_dvd (l := (1 : Int) :: (x ++ y)) 1 (List.mem_cons_self ..)
  have := Int.ofNat_dvd_left.1 this
  simpa using this
end Orq

namespace Orr
theorem put_last : ∀ {l : List Pt} {q : Pt}, (∀ p ∈ l, p.id < q.id) → put l q = l ++ [q]
  | [], _, _ => rfl
  | p :: l, q, h => by rw [put_cons, if_pos (h p (by simp)), put_last fun x hx => h x (List.mem_cons_of_mem _ hx)]; rfl
theorem newL_asc : ∀ (qs acc : List Pt), SortedP (acc ++ qs) → (acc ++ qs).length ≤ 6 → newL acc qs = (acc ++ qs, 0)
  | [], acc, _, _ => by rw [List.append_nil]; rfl
  | q :: qs, acc, hs, hl => by
    obtain ⟨h1, h2, h3⟩ := List.pairwise_append.1 hs
    have ha : ∀ p ∈ acc, p.id < q.id := fun p hp => h3 p hp q (by simp)
    have he : putE acc q = 0 := by
      rw [putE_few (by simp at hl; omega)]
      have : has acc q.id = false := by
        cases h : has acc q.id
        · rfl
        · obtain ⟨p, hp, e⟩ := (has_iff h1).1 h
          have := ha p hp; omega
      rw [this]; rfl
    simp only [newL]
    rw [if_pos he, put_last ha, newL_asc qs (acc ++ [q]) (by rw [List.append_assoc]; exact hs) (by rw [List.append_assoc]; exact hl), List.append_assoc]
    rfl
end Orr

namespace Orr
open Orq
theorem pairs_in : ∀ {l : List Pt} {i k : Nat} {x y : Pt}, i < k → l[i]? = some x → l[k]? = some y → (x, y) ∈ pairsOf l
  | [], _, _, _, _, _, h, _ => by simp at h
  | z :: l, 0, k + 1, x, y, _, hx, hy => by
    have hx : z = x := by simpa using hx
    have hy : l[k]? = some y := by simpa using hy
    subst hx
    show (z, y) ∈ l.map (fun w => (z, w)) ++ pairsOf l
    exact List.mem_append_left _ (List.mem_map.2 ⟨y, List.mem_of_getElem? hy, rfl⟩)
  | z :: l, i + 1, k + 1, x, y, h, hx, hy => by
    show (x, y) ∈ l.map (fun w => (z, w)) ++ pairsOf l
    exact List.mem_append_right _ (pairs_in (i := i) (k := k) (by omega) (by simpa using hx) (by simpa using hy))
theorem pairsK_pw {R : Pt → Pt → Prop} : ∀ (k : Nat) {l : List Pt}, l.Pairwise R → ∀ m ∈ pairsK k l, R m.1 m.2
  | 0, l, _, m, h => by simp [pairsK] at h
  | k + 1, [], _, m, h => by simp [pairsK] at h
  | k + 1, x :: l, hp, m, h => by
    rw [List.pairwise_cons] at hp
    rcases List.mem_append.1 h with h | h
    · obtain ⟨y, hy, rfl⟩ := List.mem_map.1 h
      exact hp.1 y hy
    · exact pairsK_pw k hp.2 m h
end Orr
namespace Orq
open Orr Go
def lpt (s : List Int) (i : Nat) : Pt := ⟨⟨trim [7 * s.getD i 0, ((i * i : Nat) : Int)], [], 1⟩, (i : Int)⟩
def lpts (s : List Int) (n : Nat) : List Pt := (List.range n).map (lpt s)
theorem lpts_len (s : List Int) (n : Nat) : (lpts s n).length = n := by simp [lpts]
theorem lpts_asc (s : List Int) (n : Nat) : (lpts s n).Pairwise fun x y => x.id < y.id := by
  unfold lpts
  rw [List.pairwise_map]
  exact List.Pairwise.imp (fun {a b} h => by show (a : Int) < (b : Int); omega) (List.pairwise_lt_range (n := n))
theorem lpts_pw (s : List Int) (n : Nat) : (lpts s n).Pairwise fun x y => x.id ≠ y.id := (lpts_asc s n).imp fun {a b} h => by omega
theorem lpt_sc {s : List Int} {i : Nat} (hs : ∀ z ∈ s, 0 ≤ z ∧ z < 20) (hi : i < 5) : Sc (lpt s i).c := by
  have h0 := getD_bd (by decide) hs i
  have hii : i * i ≤ 4 * 4 := Nat.mul_le_mul (by omega) (by omega)
  refine ⟨nml_one (trim_trim _) rfl, ⟨bd_trim (bd_mono (bd_small' fun z hz => ?_) (by decide)), fun z hz => (by cases hz), by show isz 1 ≤ 90; decide, Nat.le_trans (trim_len _) (by simp), Nat.zero_le _⟩⟩
  · simp only [List.mem_cons, List.not_mem_nil, or_false] at hz
    rcases hz with rfl | rfl
    · omega
    · have : ((i : Int) * (i : Int)) = ((i * i : Nat) : Int) := by simp
      omega
theorem lpts_sc {s : List Int} (hs : ∀ z ∈ s, 0 ≤ z ∧ z < 20) {n : Nat} (hn : n ≤ 5) : ∀ p ∈ lpts s n, Sc p.c := fun p hp => by
  obtain ⟨i, hi, rfl⟩ := List.mem_map.1 hp
  have := List.mem_range.1 hi
  exact lpt_sc hs (by omega)
theorem px_lpt (s : List Int) (i : Nat) (q : Rat) : px (lpt s i) q = ((7 * s.getD i 0 : Int) : Rat) + (((i * i : Nat) : Int) : Rat) * q := by
  unfold px lpt
  show pev (trim [7 * s.getD i 0, ((i * i : Nat) : Int)]) q / ((1 : Int) : Rat) = _
  rw [pev_trim]
  simp only [pev]
  rw [show ((1 : Int) : Rat) = 1 from rfl, Rat.div_def]
  have := inv1
  rw [this]; grind
theorem py_lpt (s : List Int) (i : Nat) (q : Rat) : py (lpt s i) q = 0 := by
  unfold py lpt
  show pev [] q / ((1 : Int) : Rat) = 0
  simp only [pev]
  rw [Rat.div_def]; grind
/-- a place at a whole time -/
def lpl (s : List Int) (t : Int) (i : Nat) : Int := 7 * s.getD i 0 + ((i * i : Nat) : Int) * t
theorem sq_near {U V u v : Int} {d : Rat} (d0 : 0 < d) (d1 : d ≤ 1 / 100000) (hU : U.natAbs ≤ 300) (hV : V.natAbs ≤ 300) (hu : u.natAbs ≤ 16) (hv : v.natAbs ≤ 16)
    (h : ((U : Rat) + u * d) * ((U : Rat) + u * d) ≤ ((V : Rat) + v * d) * ((V : Rat) + v * d)) : U * U ≤ V * V := by
  have hor : V * V < U * U ∨ U * U ≤ V * V := by
    rcases Int.lt_trichotomy (V * V) (U * U) with h | h | h
    · exact .inl h
    · exact .inr (by rw [h]; exact Int.le_refl _)
    · exact .inr (Int.le_of_lt h)
  rcases hor with h1 | h1
  · exfalso
    have h2 : (V : Rat) * V + 1 ≤ (U : Rat) * U := by
      have : ((V * V + 1 : Int) : Rat) ≤ ((U * U : Int) : Rat) := Rat.intCast_le_intCast.2 h1
      rw [Rat.intCast_add, Rat.intCast_mul, Rat.intCast_mul] at this; exact this
    obtain ⟨W, hW⟩ : ∃ W : Int, W = V * v - U * u := ⟨_, rfl⟩
    have ab : ∀ {x y : Int}, x.natAbs ≤ 300 → y.natAbs ≤ 16 → (x * y).natAbs ≤ 4800 := fun {x y} hx hy => by
      rw [Int.natAbs_mul]; exact Nat.mul_le_mul hx hy
    have b1 := ab hV hv
    have b2 := ab hU hu
    have hW' : W ≤ 9600 := by omega
    have cW : (W : Rat) = (V : Rat) * v - (U : Rat) * u := by rw [hW, Rat.intCast_sub, Rat.intCast_mul, Rat.intCast_mul]
    have hv2 : v * v ≤ 256 := by
      have : (v * v).natAbs ≤ 16 * 16 := by rw [Int.natAbs_mul]; exact Nat.mul_le_mul hv hv
      omega
    have cv : (v : Rat) * v ≤ 256 := by
      have : ((v * v : Int) : Rat) ≤ ((256 : Int) : Rat) := Rat.intCast_le_intCast.2 hv2
      rw [Rat.intCast_mul] at this; exact this
    have cW' : (W : Rat) ≤ 9600 := by
      have : (W : Rat) ≤ ((9600 : Int) : Rat) := Rat.intCast_le_intCast.2 hW'
      exact this
    have e : (1 : Rat) ≤ 2 * (W * d) + ((v : Rat) * v - (u : Rat) * u) * (d * d) := by rw [cW]; grind
    have p1 : (W : Rat) * d ≤ 9600 * d := by
      have := Rat.mul_nonneg (show (0 : Rat) ≤ 9600 - W by grind) (show 0 ≤ d by grind)
      grind
    have dd := Rat.mul_pos d0 d0
    have us : (0 : Rat) ≤ (u : Rat) * u := by
      have : (0 : Int) ≤ u * u := by
        rcases Int.le_total 0 u with h | h
        · exact Int.mul_nonneg h h
        · exact Int.mul_nonneg_of_nonpos_of_nonpos h h
      have : ((0 : Int) : Rat) ≤ ((u * u : Int) : Rat) := Rat.intCast_le_intCast.2 this
      rw [Rat.intCast_mul] at this; exact this
    have p2 : ((v : Rat) * v - (u : Rat) * u) * (d * d) ≤ 256 * (d * d) := by
      have := Rat.mul_nonneg (show (0 : Rat) ≤ 256 - ((v : Rat) * v - (u : Rat) * u) by grind) (show 0 ≤ d * d by grind)
      grind
    have p3 : d * d ≤ d * 1 := by
      have := Rat.mul_nonneg (show (0 : Rat) ≤ d by grind) (show 0 ≤ 1 - d by grind)
      grind
    grind
  · exact h1
theorem line_pair {s : List Int} (hs : ∀ z ∈ s, 0 ≤ z ∧ z < 20) {n : Nat} (hn : n ≤ 4) (h1 : 2 ≤ n) {t : Int} (t0 : 0 ≤ t) (t1 : t < 15) (ht : Qs 900 (t : Rat)) :
    ∃ a b, a < b ∧ b < n ∧ pairB (sgA (tq (t : Rat))) (lpts s n) = [lpt s a, lpt s b] ∧ ∀ i k, i < k → k < n → (lpl s t a - lpl s t b) * (lpl s t a - lpl s t b) ≤ (lpl s t i - lpl s t k) * (lpl s t i - lpl s t k) := by
  have hsc := lpts_sc hs (by omega : n ≤ 5)
  have hd := lpts_pw s n
  have tgt : ∀ {t q : Rat}, cmpR (tq t) q = -1 ↔ t < q := fun {t q} => by
    rw [tq_pt]; rcases cmpQ_val t q with ⟨e, h⟩ | ⟨e, h⟩ | ⟨e, h⟩ <;> grind
  obtain ⟨y, y1, y2⟩ := far_lex hsc (va_q ht)
  have y1 := tgt.1 y1
  obtain ⟨q, hq⟩ : ∃ q : Rat, q = if y ≤ (t : Rat) + 1 / 100000 then y else (t : Rat) + 1 / 100000 := ⟨_, rfl⟩
  have q1 : (t : Rat) < q := by grind
  have q2 : q ≤ y := by grind
  have q3 : q ≤ (t : Rat) + 1 / 100000 := by grind
  have hg := y2 q (tgt.2 q1) q2
  obtain ⟨u, v, l', hl⟩ := two_of (l := lpts s n) (by rw [lpts_len]; omega)
  rw [hl] at hg
  have fm := near_fm (f := fun m => dsq m q) hg
  rw [← hl] at fm
  have hB : pairB (sgA (tq (t : Rat))) (lpts s n) = [(nearest (sgA (tq (t : Rat))) (u, v) (pairsOf (lpts s n))).1, (nearest (sgA (tq (t : Rat))) (u, v) (pairsOf (lpts s n))).2] := by
    rw [hl]; rfl
  rw [hB]
  obtain ⟨r, hr⟩ : ∃ r, r = nearest (sgA (tq (t : Rat))) (u, v) (pairsOf (lpts s n)) := ⟨_, rfl⟩
  rw [← hr] at fm ⊢
  obtain ⟨P1, P2, hP, f1, f2⟩ := fm
  have hrm : r ∈ pairsOf (lpts s n) := by rw [hP]; simp
  obtain ⟨m1, m2⟩ := pairsK_mem _ _ r hrm
  have m3 := pairsK_pw (R := fun x y => x.id < y.id) _ (lpts_asc s n) r hrm
  obtain ⟨a, ha, e1⟩ := List.mem_map.1 m1
  obtain ⟨b, hb, e2⟩ := List.mem_map.1 m2
  have ha := List.mem_range.1 ha
  have hb := List.mem_range.1 hb
  rw [← e1, ← e2] at m3 ⊢
  have hab : a < b := by have : (a : Int) < (b : Int) := m3; omega
  refine ⟨a, b, hab, hb, rfl, fun i k hik hk => ?_⟩
  have hmem : (lpt s i, lpt s k) ∈ pairsOf (lpts s n) := pairs_in hik (by unfold lpts; rw [List.getElem?_map, List.getElem?_range (by omega)]; rfl) (by unfold lpts; rw [List.getElem?_map, List.getElem?_range hk]; rfl)
  have hle : dsq r q ≤ dsq (lpt s i, lpt s k) q := by
    rw [hP] at hmem
    rcases List.mem_append.1 hmem with h | h
    · have := f1 _ h; dsimp only at this; grind
    · rcases List.mem_cons.1 h with h | h
      · rw [h]; exact Rat.le_refl
      · exact f2 _ h
  obtain ⟨d, hd⟩ : ∃ d : Rat, d = q - t := ⟨_, rfl⟩
  have d0 : 0 < d := by grind
  have d1 : d ≤ 1 / 100000 := by grind
  have eq : q = (t : Rat) + d := by grind
  have pp : ∀ i, px (lpt s i) q = ((lpl s t i : Int) : Rat) + (((i * i : Nat) : Int) : Rat) * d := fun i => by
    rw [px_lpt, eq]; unfold lpl; rw [Rat.intCast_add, Rat.intCast_mul (((i * i : Nat) : Int)) t]; grind
  have bd : ∀ i, i < n → 0 ≤ lpl s t i ∧ lpl s t i ≤ 300 ∧ ((i * i : Nat) : Int) ≤ 16 := fun i hi => by
    have h0 := getD_bd (by decide) hs i
    have hii : i * i ≤ 3 * 3 := Nat.mul_le_mul (by omega) (by omega)
    have : ((i * i : Nat) : Int) * t ≤ 9 * 14 := by
      have h5 : ((i * i : Nat) : Int) * t ≤ 9 * t := Int.mul_le_mul_of_nonneg_right (by omega) t0
      omega
    have : 0 ≤ ((i * i : Nat) : Int) * t := Int.mul_nonneg (by omega) t0
    unfold lpl; omega
  have hA := bd a ha
  have hBb := bd b hb
  have hI := bd i (by omega)
  have hK := bd k hk
  refine sq_near (u := ((a * a : Nat) : Int) - ((b * b : Nat) : Int)) (v := ((i * i : Nat) : Int) - ((k * k : Nat) : Int)) d0 d1 (by omega) (by omega) (by omega) (by omega) ?_
  have er : r = (lpt s a, lpt s b) := Prod.ext e1.symm e2.symm
  rw [er] at hle
  unfold dsq at hle
  simp only [py_lpt, pp] at hle
  rw [Rat.intCast_sub, Rat.intCast_sub, Rat.intCast_sub, Rat.intCast_sub]
  grind
end Orq

namespace Orr
open Go Go.Proofs Orq
set_option maxRecDepth 10000
def wtl20 (zs : List Int) : List Int := zs.map fun z => wthn z 20
theorem wtl20_get {zs : List Int} {i : Nat} (h : i < zs.length) : (wtl20 zs).getD i 0 = wthn zs[i] 20 := by
  unfold wtl20; rw [List.getD_eq_getElem?_getD, List.getElem?_map, List.getElem?_eq_getElem h]; rfl
theorem wtl20_bd (zs : List Int) : ∀ z ∈ wtl20 zs, 0 ≤ z ∧ z < 20 := fun z hz => by
  obtain ⟨x, _, rfl⟩ := List.mem_map.1 hz
  show 0 ≤ x % 20 ∧ x % 20 < 20
  omega
theorem lpl_bd {s : List Int} (hs : ∀ z ∈ s, 0 ≤ z ∧ z < 20) {u : Int} (hu : 0 ≤ u ∧ u < 15) {i : Nat} (hi : i < 4) : 0 ≤ lpl s u i ∧ lpl s u i ≤ 300 ∧ 0 ≤ ((i * i : Nat) : Int) * u ∧ ((i * i : Nat) : Int) * u ≤ 140 ∧ i * i ≤ 9 := by
  have h0 := getD_bd (by decide) hs i
  have hii : i * i ≤ 3 * 3 := Nat.mul_le_mul (by omega) (by omega)
  have h5 : ((i * i : Nat) : Int) * u ≤ 9 * u := Int.mul_le_mul_of_nonneg_right (by omega) hu.1
  have h6 : 0 ≤ ((i * i : Nat) : Int) * u := Int.mul_nonneg (by omega) hu.1
  unfold lpl; omega
theorem c_placeL {zs s : List Int} {u : Int} {i : Nat} (hz : ∀ z ∈ zs, -9223372036854775808 ≤ z ∧ z ≤ 9223372036854775807) (hs : s = wtl20 zs) (hu : 0 ≤ u ∧ u < 15) (hi : i < zs.length) (hi4 : i < 4) :
    DoesD Tryz.prog 16 [.one (.int .i64 (i : Int)), .one (.int .i64 u), .one (.ow 0 0)] [.blk 22 [.row (idl zs)]] [.one (.int .i64 (lpl s u i))] [.blk 22 [.row (idl zs)]] := by
  have c20 := c_Within (v := zs[i]) (n := 20) (hz _ (List.getElem_mem hi)) (by decide)
  have hx : zs[i]? = some zs[i] := List.getElem?_eq_getElem hi
  have hb := lpl_bd (s := s) (by rw [hs]; exact wtl20_bd zs) hu hi4
  have h0 := getD_bd (b := 20) (by decide) (s := s) (by rw [hs]; exact wtl20_bd zs) i
  rw [← wtl20_get hi, ← hs] at c20
  unfold lpl at hb ⊢
  refine fnD Tryz.func16 rfl ?_
  exact ed tt [] [0] [.x (idl_get hx), .c [] c20, .r 14 (eI (b := ((i * i : Nat) : Int)) (by simp))] rfl (by simp [AllP, -List.getD_eq_getElem?_getD, -Int.natCast_mul]; omega)
theorem c_far {zs s : List Int} {u : Int} {i k : Nat} (hz : ∀ z ∈ zs, -9223372036854775808 ≤ z ∧ z ≤ 9223372036854775807) (hs : s = wtl20 zs) (hu : 0 ≤ u ∧ u < 15) (hi : i < zs.length) (hi4 : i < 4) (hk : k < zs.length) (hk4 : k < 4) :
    DoesD Tryz.prog 25 [.one (.int .i64 (i : Int)), .one (.int .i64 (k : Int)), .one (.ow 0 0), .one (.ow 1 0)] [.blk 23 [.ofn 16 [] [.ow 2 0]], .blk 3 [.int .i64 u], .blk 22 [.row (idl zs)]] [.one (.int .i64 ((lpl s u i - lpl s u k) * (lpl s u i - lpl s u k)))] [.blk 23 [.ofn 16 [] [.ow 2 0]], .blk 3 [.int .i64 u], .blk 22 [.row (idl zs)]] := by
  have ci := c_placeL hz hs hu hi hi4
  have ck := c_placeL hz hs hu hk hk4
  have bi := lpl_bd (s := s) (by rw [hs]; exact wtl20_bd zs) hu hi4
  have bk := lpl_bd (s := s) (by rw [hs]; exact wtl20_bd zs) hu hk4
  have hm : ((lpl s u i - lpl s u k) * (lpl s u i - lpl s u k)).natAbs ≤ 300 * 300 := by rw [Int.natAbs_mul]; exact Nat.mul_le_mul (by omega) (by omega)
  refine fnD Tryz.func25 rfl ?_
  exact ed tt [] [0, 1, 2] [.lo, .c [2] ci, .lo, .c [2] ck, .lo, .c [2] ci, .lo, .c [2] ck] rfl (by simp [AllP]; omega)
theorem lpt_crv (s : List Int) (i : Nat) : Crv.norm (Crv.mk (trim [7 * s.getD i 0, ((i * i : Nat) : Int)]) [] 0) = (lpt s i).c := Crv.norm_of (k := (lpt s i).c) (nml_one (trim_trim _) rfl)
theorem lpts_snoc (s : List Int) (i : Nat) : ptrow (lpts s (i + 1)) = ptrow (lpts s i) ++ [ofPt (lpt s i)] := by
  unfold lpts ptrow; rw [List.range_succ, List.map_append, List.map_append]; rfl
theorem allF_len (l : List Pt) : (allF l).length = l.length * (l.length * (l.length * l.length)) := by
  have h : ∀ {α : Type} (f : Pt → List α) (k : Nat) (m : List Pt), (∀ x, (f x).length = k) → (m.flatMap f).length = m.length * k := fun f k m hf => by
    induction m with
    | nil => simp
    | cons y m ih => rw [List.flatMap_cons, List.length_append, ih, hf, List.length_cons, Nat.add_mul, Nat.one_mul, Nat.add_comm]
  unfold allF
  exact h _ _ _ fun a => h _ _ _ fun b => h _ _ _ fun c => List.length_map _
set_option maxHeartbeats 4000000 in
theorem d_law21_OnLine {zs : List Int} {t : Int} (hz : ∀ z ∈ zs, -9223372036854775808 ≤ z ∧ z ≤ 9223372036854775807) (ht : -9223372036854775808 ≤ t ∧ t ≤ 9223372036854775807) : Does Tryz.prog 3 [.one (.row (idl zs)), .one (.int .i64 t)] [.one (.bool true)] := by
  obtain ⟨T, hT⟩ : ∃ T, T = wthn t 15 := ⟨_, rfl⟩
  have hT0 : 0 ≤ T ∧ T < 15 := by rw [hT]; show 0 ≤ t % 15 ∧ t % 15 < 15; omega
  obtain ⟨N, hN⟩ : ∃ N, N = min zs.length 4 := ⟨_, rfl⟩
  have hN4 : N ≤ 4 := by omega
  have hNl : N ≤ zs.length := by omega
  obtain ⟨s, hs⟩ : ∃ s, s = wtl20 zs := ⟨_, rfl⟩
  have hsb : ∀ z ∈ s, 0 ≤ z ∧ z < 20 := by rw [hs]; exact wtl20_bd zs
  have hsg := getD_bd (b := 20) (by decide) hsb
  have hil : (idl zs).length = zs.length := by simp
  have cw := c_Within (v := t) (n := 15) ht (by decide)
  rw [← hT] at cw
  have hsc := lpts_sc hsb (n := N) (by omega)
  have hd := lpts_pw s N
  have hln : (lpts s N).length ≤ 10 := by rw [lpts_len]; omega
  have hpl : ∀ i, (ptrow (lpts s i)).length = i := fun i => by rw [rp_len, lpts_len]
  refine fnD Tryz.func3 rfl (ln 0 rfl rfl fun hzl => ?_)
  rw [hil] at hzl
  refine go tt [.r 21 (eI (b := (N : Int)) (by rw [hil, hN]; omega)), .c [] cw, .o 7 35 5] rfl trivial ?_
  refine lp (S := Nat) 4 (fun L1 i => (8, .v (.one (.int .i64 (i : Int)))) :: (7, .v (.one (.orow 3 5 none))) :: L1) (fun i => [.blk 22 [.row (idl zs)], .blk 3 [.int .i64 T], .blk 23 [.ofn 16 [] [.ow 0 0]], .row false 35 5 (ptrow (lpts s i))]) (fun i => N - i) (fun i => i ≤ N) 0 (Nat.zero_le _) rfl (fun _ _ => rfl) rfl fun i hi => ?_
  by_cases hlt : i < N
  · have h0 := hsg i
    have cp := c_placeL (u := 0) (i := i) hz hs ⟨by decide, by decide⟩ (by omega) (by omega)
    have e0 : lpl s 0 i = 7 * s.getD i 0 := by unfold lpl; rw [Int.mul_zero]; omega
    rw [e0] at cp
    have hii : i * i ≤ 3 * 3 := Nat.mul_le_mul (by omega) (by omega)
    have p1 := c_POf (p := [7 * s.getD i 0, ((i * i : Nat) : Int)]) (by simp) (fun z hz => by simp only [List.mem_cons, List.not_mem_nil, or_false] at hz; omega)
    have hc := (lpt_sc (s := s) (i := i) hsb (by omega)).c
    have hcs : Cs 90 3 (Crv.mk (trim [7 * s.getD i 0, ((i * i : Nat) : Int)]) [] 0) := ⟨hc.x, hc.y, by show isz 0 ≤ 90; decide, hc.lx, hc.ly⟩
    have co := c_cOf (isInts_n (trim [7 * s.getD i 0, ((i * i : Nat) : Int)])) (isInts_n []) (hcs.mono (by decide) (by decide))
    rw [lpt_crv] at co
    have hm : ∀ y ∈ [ofPt (lpt s i)], y.length = 5 := fun y hy => by rw [List.mem_singleton.1 hy]; rfl
    refine go tt [.t (by simpa using hlt), .c [0] cp, .r 36 (eI (b := ((i * i : Nat) : Int)) (by simp)), .c [] p1, .c [] co, .s (sz := 5) hm] rfl (by simp [AllP, hpl, -Int.natCast_mul]; omega) ?_
    exact rd (i + 1) (by omega) hlt (by rw [lpts_snoc]; rfl)
  have hiN : i = N := by omega
  rw [hiN]
  clear hlt hi hiN
  have zp := isPts_n (s := 4294967294) (n := 1073741824) fun p hp => (hsc p hp).pt
  have hq0 : Qs 900 (ratOf 0 0) := ⟨by decide, by decide⟩
  have hnl : newL [] (lpts s N) = (lpts s N, 0) := by
    have := newL_asc (lpts s N) [] (by rw [List.nil_append]; exact lpts_asc s N) (by rw [List.nil_append, lpts_len]; omega)
    rw [List.nil_append] at this; exact this
  have cn := c_PaNew zp (by rw [lpts_len]; omega) hnl hsc hln isInt_zero isInt_zero (by decide) (by decide) hq0
  have r0 : ratOf 0 0 = 0 := by decide
  rw [r0] at cn hq0
  have hv : Va (tq 0) := va_q hq0
  have htq : Qs 900 (T : Rat) := ⟨Nat.le_trans (isz_le.2 (show T.natAbs < 2 ^ 60 by omega)) (by decide), by show isz 1 ≤ 900; decide⟩
  have S : Stab (bcP (lpts s N)) (brP (lpts s N)) := stabP hsc hln hd
  have hst : KSt (bcP (lpts s N)) (brP (lpts s N)) (begP (lpts s N) (tq 0)) (brP (lpts s N) (tq 0)) := beg_st S hv
  have hcmp : cmpR (begP (lpts s N) (tq 0)).now (T : Rat) ≤ 0 := by
    show cmpR (tq 0) (T : Rat) ≤ 0
    rw [tq_pt]
    refine cmpQ_le.2 ?_
    have : ((0 : Int) : Rat) ≤ (T : Rat) := Rat.intCast_le_intCast.2 hT0.1
    exact this
  have hal : (allF (lpts s N)).length ≤ 1000000 := by
    rw [allF_len, lpts_len]
    have : N * (N * (N * N)) ≤ 4 * (4 * (4 * 4)) := Nat.mul_le_mul hN4 (Nat.mul_le_mul hN4 (Nat.mul_le_mul hN4 hN4))
    omega
  obtain ⟨K, c', E, hK, hg, hnow, hS', hev, hEl, hE⟩ := adv_ok S (allF_cp hsc) (fun a _ => bcP_all) hal htq hst hcmp
  have cadv := c_PaAdv (l := lpts s N) (K := K) htq hsc hln hst.inv.ok ⟨Int.le_refl 0, by show (0 : Int) + K ≤ 1000000000000000000; omega⟩ hcmp hg
  by_cases h2 : N < 2
  · have hb : brP (lpts s N) (tq (T : Rat)) = [] := by unfold brP; rw [(pairB_few _ (by rw [lpts_len]; exact h2)).1]; rfl
    rw [hb] at cadv
    exact en tt [.f (by simp), .c [4] cn, .g 52 false rfl, .f rfl, .c [] (c_OfR1 (n := T) (by omega)), .c [] (c_ToR (htq.mono (by decide))), .c [4] cadv, .f rfl, .c [4] c_PaIds0, .t rfl, .g 76 true (decide_eq_true (by omega)), .c [] d_wakes21] rfl rfl trivial
  · obtain ⟨a, b, hab, hbN, hpb, hmin⟩ := line_pair hsb hN4 (by omega) hT0.1 hT0.2 htq
    have hb : brP (lpts s N) (tq (T : Rat)) = ptrow [lpt s a, lpt s b] := by unfold brP; rw [hpb]
    rw [hb] at cadv
    have ci := c_PaIds (c := c') (r0 := ptrow (lpts s N)) (a := lpt s a) (b := lpt s b)
    have ia : (lpt s a).id = (a : Int) := rfl
    have ib : (lpt s b).id = (b : Int) := rfl
    rw [ia, ib] at ci
    have cab := c_far (i := a) (k := b) hz hs hT0 (by omega) (by omega) (by omega) (by omega)
    refine go tt [.f (by simp), .c [4] cn, .g 52 false rfl, .f rfl, .c [] (c_OfR1 (n := T) (by omega)), .c [] (c_ToR (htq.mono (by decide))), .c [4] cadv, .f rfl, .c [4] ci, .f rfl, .g 81 false (decide_eq_false (by omega)), .g 86 false (decide_eq_false (by omega)), .f (decide_eq_false (by omega))] rfl trivial ?_
    refine lp (S := Nat) 5 (fun L1 i => (17, .v (.one (.int .i64 (i : Int)))) :: L1) (fun _ => [.blk 22 [.row (idl zs)], .blk 3 [.int .i64 T], .blk 23 [.ofn 16 [] [.ow 0 0]], .gone, .blk 74 (crl c' (ptrow (lpts s N)) (ptrow [lpt s a, lpt s b]))]) (fun i => N - i) (fun i => i ≤ N) 0 (Nat.zero_le _) rfl (fun _ _ => rfl) rfl fun i hi => ?_
    by_cases hlt : i < N
    · refine go tt [.t (by simpa using hlt), .r 98 (eI (b := ((i + 1 : Nat) : Int)) (by simp))] rfl (by simp [AllP]; omega) ?_
      refine lp (S := Nat) 5 (fun L1 k => (18, .v (.one (.int .i64 (k : Int)))) :: L1) (fun _ => [.blk 22 [.row (idl zs)], .blk 3 [.int .i64 T], .blk 23 [.ofn 16 [] [.ow 0 0]], .gone, .blk 74 (crl c' (ptrow (lpts s N)) (ptrow [lpt s a, lpt s b]))]) (fun k => N - k) (fun k => i < k ∧ k ≤ N) (i + 1) ⟨by omega, by omega⟩ rfl (fun _ _ => rfl) rfl fun k hk => ?_
      by_cases hltk : k < N
      · have cik := c_far (i := i) (k := k) hz hs hT0 (by omega) (by omega) (by omega) (by omega)
        have hle := hmin i k hk.1 hltk
        refine go tt [.t (by simpa using hltk), .c [2, 1, 0] cik, .c [2, 1, 0] cab, .f (decide_eq_false (by omega))] rfl (by simp [AllP]; omega) ?_
        exact rd (k + 1) (by omega) ⟨by omega, hltk⟩ rfl
      · have hkN : k = N := by omega
        refine go tt [.f (by simp; omega)] rfl (by simp [AllP]; omega) ?_
        exact rd (i + 1) (by omega) hlt rfl
    · exact en tt [.f (by simp; omega), .g 115 true (decide_eq_true (by omega)), .c [] d_wakes21] rfl rfl trivial
end Orr

namespace Orr
open Go Go.Proofs
variable {H : Type} {enc : TypeId × Value → H} {w : World} {base : Nat} {spare : Nat → Bool} {held : Bool}
end Orr

namespace Orr
open Go Go.Proofs Go.ChangeShapes Go.WideShapes Go.ChangeAt Go.RowKit Go.WideElems

theorem cell_at {w : World} {a : Addr} {v : Value} (h : w.cell? a = some v) : a.spot = none ∧ a.block < w.heap.size := by
  simp only [World.cell?] at h
  split at h
  · rename_i c t fr hc
    split at h
    · cases h
    · rename_i hs
      refine ⟨by cases e : a.spot with | none => rfl | some _ => simp [e] at hs, ?_⟩
      exact (Array.getElem?_eq_some_iff.1 hc).1
  · cases h
theorem add_add {a : Addr} (h : a.spot = none) (n m : Nat) : (a.add n).add m = ⟨a.block, a.off + n + m, none⟩ := by
  obtain ⟨b, o, s⟩ := a
  simp only at h
  subst h
  simp only [Addr.add]
  split
  · rename_i h; subst h
    split
    · rename_i h; subst h; simp
    · simp
  · split
    · rename_i h; subst h; simp
    · simp

/-- the frame of a law: all of the old memory stays -/
def fr0 (w : World) : Fr := ⟨fun b => b < w.heap.size, fun _ => False, w, fun _ => False, fun _ => none⟩
theorem hs0 (w : World) : HS (fr0 w) (ob []) (nw []) (fun _ => none) (fun _ => False) w where
  size := Nat.le_refl _
  kept := fun b hb => ⟨hb, rfl, Iff.rfl⟩
  ids := fun i h => h.elim
  nj := fun i h => by rw [ob_nil] at h; cases h
  io := ⟨rfl, rfl⟩
  blk := fun i => by rw [ob_nil]; trivial
  nk := fun i g c m h _ => by rw [ob_nil] at h; cases h
  inj := fun i j g c m c' m' h _ _ _ => by rw [ob_nil] at h; cases h
  mlt := fun b h => h.elim
  m0 := fun b _ h => h.elim
  un := fun i _ => ⟨rfl, rfl⟩
  uj := fun i _ h => h.elim
theorem same_of {w w' : World} {bl : Nat → OB} {U : Nat → Prop} {E : Env} {M : Nat → Prop} (h : HS (fr0 w) bl U E M w') {p : MemPlace} (hp : p.block < w.heap.size) : w.sameAt w' p := by
  cases p with
  | cell b off => simp only [World.sameAt, World.cell?]; rw [(h.kept b hp).2.1]; rfl
  | map b => exact (h.kept b hp).2.1
theorem kept_of {w w' : World} {bl : Nat → OB} {U : Nat → Prop} {E : Env} {M : Nat → Prop} (h : HS (fr0 w) bl U E M w') (may : MemPlace → Prop) : w.keptBut w' may := by
  refine ⟨h.io.1, h.io.2, fun i hi => ?_⟩
  have e : w'.heap[i]? = w.heap[i]? := (h.kept i hi).2.1
  rw [e]
  cases w.heap[i]? with
  | none => rfl
  | some o => cases o <;> simp

end Orr

namespace Orr
open Go Go.Proofs Go.ChangeShapes Go.WideShapes Go.ChangeAt Go.RowKit Go.WideElems
set_option maxRecDepth 20000 in
/-- a row of numbers -/
theorem ints_read {H : Type} {enc : TypeId × Value → H} {w : World} {v : Value} {d : DataW H} {ps : List MemPlace} {ts : List TypeId} {ds : List (DataW H)} {base : Nat}
    (hval : Value.okWide Tryz.prog w .any base 22 v) (h : DataW.Trod enc Tryz.prog w 0 (fun _ => true) true 22 v d ps)
    (hz : (DataW.weightsEach Tryz.prog ts ds).all (· ≤ reachBytes) = true) (ht : ts[0]? = some 22) (hd : ds[0]? = some d) :
    ∃ zs : List Int, (∀ z ∈ zs, -9223372036854775808 ≤ z ∧ z ≤ 9223372036854775807) ∧ LRep w (fun _ => False) v (.row (idl zs)) := by
  obtain ⟨a, len, cap, rfl⟩ := okWide_slice Tryz.underlying22 hval
  obtain ⟨fu, h⟩ := h
  rcases Go.Deep.open_slice Tryz.underlying22 h with ⟨e, _⟩ | ⟨a', len', cap', m, n, D, Pl, e, _, hlc, hcap, hm, hx, hr⟩
  · simp only [Value.cells] at e
    have e : Value.slice a len cap = .slice none 0 0 := by simpa using e
    injection e with e1 e2 e3
    subst e1 e2 e3
    refine ⟨[], fun z hz => by simp at hz, ?_⟩
    exact LRep.row none 0 0 0 0 [] (fun _ _ => .bool true) (Nat.le_refl _) (by decide) (by simp) (by simp) (by simp) (by simp)
  · simp only [Value.cells] at e
    have e : Value.slice a len cap = .slice (some a') len' cap' := by simpa using e
    injection e with e1 e2 e3
    subst e1 e2 e3
    simp only [if_true] at hm
    subst hm
    have hd' : d = _ := congrArg Prod.fst hx
    subst hd'
    have hw := sized_slice hz ht hd Tryz.underlying22
    have hc5 : Tryz.prog.cellsOf 3 = 1 := by kernel_rfl
    have hb : 1 ≤ Tryz.prog.bytesOf 3 := of_decide_eq_true (by kernel_rfl)
    have hlen : len < 2 ^ 47 := by
      have h1 : len ≤ (len + (m - len)) * Tryz.prog.bytesOf 3 := by
        have := Nat.mul_le_mul (Nat.le_add_right len (m - len)) hb
        omega
      have h2 : (len + (m - len)) * Tryz.prog.bytesOf 3 ≤ reachBytes := by simpa using hw
      exact Nat.lt_of_le_of_lt (Nat.le_trans h1 h2) reachBytes_lt
    have hread : ∀ i, i < len → ∃ id : Int, w.cells? 0 (a'.add (i * 1)) 1 = some [.int .i64 id] ∧ (Lit.int .i64 id).wf = true := by
      intro i hi
      obtain ⟨cs, hcs, htr⟩ := hr i (by omega)
      rw [hc5] at hcs
      obtain ⟨id, e1, _, hw⟩ := DataW.trod_int Tryz.underlying3 htr
      subst e1
      exact ⟨id, hcs, hw⟩
    have hone : ∀ i, ∃ (id : Int), i < len → a'.spot = none ∧ a'.block < w.heap.size ∧
        w.cell? ⟨a'.block, a'.off + i * 1 + 0, none⟩ = some (.int .i64 id) ∧ (Lit.int .i64 id).wf = true := by
      intro i
      by_cases hi : i < len
      · obtain ⟨id, hcs, hwf⟩ := hread i hi
        obtain ⟨_, hl, hcell⟩ := World.cells?_some hcs
        have c0 := hcell 0 (by decide)
        have hsp : a'.spot = none := by
          obtain ⟨id0, hcs0, _⟩ := hread 0 (by omega)
          obtain ⟨_, _, hcell0⟩ := World.cells?_some hcs0
          have c0 := hcell0 0 (by decide)
          have : (a'.add (0 * 1)).add 0 = a' := by simp [Addr.add]
          rw [this] at c0
          exact (cell_at c0).1
        rw [add_add hsp] at c0
        exact ⟨id, fun _ => ⟨hsp, (cell_at c0).2, by simpa using c0, hwf⟩⟩
      · exact ⟨0, fun h => absurd h hi⟩
    let I : Nat → Int := fun i => Classical.choose (hone i)
    have hI : ∀ i, i < len → a'.spot = none ∧ a'.block < w.heap.size ∧
        w.cell? ⟨a'.block, a'.off + i * 1 + 0, none⟩ = some (.int .i64 (I i)) ∧ (Lit.int .i64 (I i)).wf = true := fun i => Classical.choose_spec (hone i)
    let zs : List Int := (List.range len).map I
    have hzl : (idl zs).length = len := by simp [zs]
    have hzg : ∀ i cs, (idl zs)[i]? = some cs → i < len ∧ cs = [.int .i64 (I i)] := by
      intro i cs h
      simp only [zs, idl, List.getElem?_map] at h
      by_cases hi : i < len
      · rw [List.getElem?_range hi] at h
        simp at h
        exact ⟨hi, h.symm⟩
      · rw [List.getElem?_eq_none (by simp; omega)] at h
        cases h
    refine ⟨zs, ?_, ?_⟩
    · intro z hz
      obtain ⟨i, hi, rfl⟩ := List.mem_map.1 hz
      have hwf := (hI i (List.mem_range.1 hi)).2.2.2
      simpa [Lit.wf, IntKind.min, IntKind.max, IntKind.signed, IntKind.bits] using hwf
    · have key : LRep w (fun _ => False) (.slice (some a') (idl zs).length m) (.row (idl zs)) := by
        refine LRep.row (some a') m 1 a'.block a'.off (idl zs) (fun i _ => .int .i64 (I i)) (by omega) ?_ ?_ ?_ ?_ ?_
        · have : maxLen = 2 ^ 63 - 1 := by rfl
          omega
        · intro cs hcs
          obtain ⟨i, hi⟩ := List.mem_iff_getElem?.1 hcs
          obtain ⟨_, rfl⟩ := hzg i cs hi
          rfl
        · intro h0
          obtain ⟨hs, hb, _⟩ := hI 0 (by omega)
          refine ⟨?_, hb, by simp⟩
          obtain ⟨b, o, s⟩ := a'
          simp only at hs
          rw [hs]
        · intro i cs hi j hj
          obtain ⟨hl, rfl⟩ := hzg i cs hi
          obtain rfl : j = 0 := by simpa using hj
          exact (hI i hl).2.2.1
        · intro i cs hi j x hx
          obtain ⟨hl, rfl⟩ := hzg i cs hi
          match j, hx with
          | 0, hx => simp at hx; subst hx; exact .int _ _
          | j + 1, hx => simp at hx
      rwa [hzl] at key
set_option maxRecDepth 20000 in
/-- a law of a row of numbers, and a number -/
theorem law_ints {f : FuncId} {fn : Func} {s : ChangeSpec} (hp : fn.params = #[22, 3]) (hr : fn.resultTypes = #[4]) (hv : s.vars = [])
    (hs : ∀ (H : Type) (d1 d2 : DataW H), s.fn H [d1, d2] = { results := [.lit (.bool true)], args := [d1, d2] })
    (hlaid : laidOutB Tryz.prog = true) (hr22 : Tryz.prog.readableRec 22 = true) (hr3 : Tryz.prog.readableRec 3 = true) (hs22 : 22 < Tryz.prog.types.size) (hs3 : 3 < Tryz.prog.types.size)
    (law : ∀ (zs : List Int) (n : Int), (∀ z ∈ zs, -9223372036854775808 ≤ z ∧ z ≤ 9223372036854775807) → (-2^63 ≤ n ∧ n ≤ 2^63-1) → Does Tryz.prog f [.one (.row (idl zs)), .one (.int .i64 n)] [.one (.bool true)])
    {H : Type} {enc : TypeId × Value → H} {W : World} {base : Nat} {args : Array Value} {ds gs : List (DataW H)} {before : List MemPlace} {fresh handsOn : Bool}
    (hval : ∀ (j : Nat) t v, fn.params[j]? = some t → args[j]? = some v → Value.okWide Tryz.prog W .any base t v)
    (hW : DataW.Whole enc Tryz.prog fn.params.toList s.vars false W args.toList ds gs before)
    (hz : (DataW.weightsEach Tryz.prog (fn.params.toList ++ s.plain.varTypes Tryz.prog) (ds ++ gs)).all (· ≤ reachBytes) = true) :
    Calls Tryz.prog f args W fun e W' => ∃ v, e = .returned v ∧ s.post enc Tryz.prog fn false fresh handsOn false W args v W' := by
  have hW' := hW
  obtain ⟨p, q, hA0, hV, rfl, hfz, hnd⟩ := hW
  have hA : DataW.TrodAll enc Tryz.prog W 0 (fun _ => true) true fn.params.toList args.toList ds p := hA0
  rw [hv] at hV
  obtain ⟨rfl, rfl⟩ := trodVars_none hV
  have hlt := hW'.lt
  rw [hp] at hA hval hz
  obtain ⟨v0, vs0, d0, ds0, p0, q0, hargs0, rfl, rfl, h0, r0⟩ := trodAll_cons hA
  obtain ⟨v1, vs1, d1, ds1, p1, q1, rfl, rfl, rfl, h1, r1⟩ := trodAll_cons r0
  obtain ⟨rfl, rfl, rfl⟩ := trodAll_nil r1
  obtain rfl : args = #[v0, v1] := by cases args; simp_all
  obtain ⟨n, rfl, rfl, rfl, w1⟩ := open_int Tryz.underlying3 (hval 1 3 v1 rfl rfl) h1
  obtain ⟨zs, hn, hrep⟩ := ints_read (hval 0 22 v0 rfl rfl) h0 hz rfl rfl
  have hn1 : -2^63 ≤ n ∧ n ≤ 2^63-1 := by simpa [Lit.wf, IntKind.min, IntKind.max, IntKind.signed, IntKind.bits] using w1
  have hcall := (law zs n hn hn1).2 (fr0 W) (fun _ => none) (fun _ => False) W [v0, .int .i64 n] (hs0 W) (.cons (show XRep W (fun _ => False) (fun _ => none) v0 (.row (idl zs)) from hrep.x) (.cons (show XRep W (fun _ => False) (fun _ => none) (.int .i64 n) (.int .i64 n) from (LRep.int .i64 n).x) .nil))
  refine hcall.mono fun e W' ⟨v, u, Bo, E', M', he, ⟨hu, hBo⟩, _, hm, har⟩ => ?_
  subst hu
  obtain rfl : v = .bool true := by
    have h : LRep _ _ v (.bool true) := har
    cases h
    rfl
  refine ⟨_, he, ?_⟩
  refine ⟨[d0, .lit (.int .i64 n)], [], _, [], p0 ++ ([] ++ []), [], hW', ?_, ?_, ?_, kept_of hm _, fun h => by cases h⟩
  · rw [hr, List.append_nil, hs]
    exact trodAll_cons_mk (shut_bool Tryz.underlying4 true) trodAll_mk0
  · rw [hp, List.append_nil, hs]
    have hb : ∀ p ∈ p0, p.block < W.heap.size := fun p hp => hlt p (by simp [hp])
    exact trodAll_cons_mk (Trod_stays hlaid hr22 hs22 h0 (fun p hp => same_of hm (hb p hp)) (fun p hp => by simpa using hb p hp)) (trodAll_cons_mk (shut_int Tryz.underlying3 w1) trodAll_mk0)
  · rw [hv, List.append_nil, hs]
    rfl
end Orr
