/- ADet AvMap MeshL ACirc AvArr AvLeaf AvLeafC -/
import Derived.Test.YtdigkdmaagnimaaGreatPart07
import Derived.MapKept
set_option linter.all false

namespace Orr
open Go Go.Proofs
abbrev SmallP (p : List Int) : Prop := Trim p ∧ p.length < 274877906944 ∧ Bd 4294967295 p
theorem drop_snoc {α : Type} {l : List α} {j : Nat} {x : α} (h : l[j]? = some x) (h0 : 0 < j) : (l.take (j + 1)).drop 1 = (l.take j).drop 1 ++ [x] := by
 rw [take_snoc h, List.drop_append_of_le_length (by rw [List.length_take]; have := (List.getElem?_eq_some_iff.1 h).1; omega)]
theorem drop_zero' {α : Type} (l : List α) : (l.take (0 + 1)).drop 1 = (l.take 0).drop 1 := by cases l <;> rfl
theorem d_det_Row {ps : List (List Int)} (hl : ps.length ≤ 1000) (hp : ∀ p ∈ ps, SmallP p) : Does Tryz.prog 84 [.one (pls ps)] (.one (pls ps)) := by
 refine does_ (n := 19) Tryz.func84 rfl Tryz.ntmps84 rfl ?_
 refine ac_seq (ac_reg ?_)
 refine w_ (p_assign rfl rfl) ?_
 refine aw_nil ?_
 refine ac_seq (ac_reg ?_)
 refine w_ (p_assign rfl rfl) ?_
 refine aw_nil ?_
 refine ac_seq (ac_seq (ac_reg ?_))
 refine w_ (p_move rfl rfl) ?_
 refine w_ (p_len (m := ps.length) Tryz.runUnderlying143 rfl (rlen_pls _) rfl) ?_
 refine w_ (p_move rfl rfl) ?_
 refine aw_nil ?_
 refine ac_block ?_
 refine ac_ownNil [3] 27 1 rfl (allAre1 rfl) rfl ?_
 refine ac_pick [3, 6, 7, 8] rfl ?_
 refine ac_loop (fun m L B => ∃ i r, i ≤ ps.length ∧ m = ps.length - i ∧ L = [(3, .one (.orow r 1 0 i)), (6, .one (pls ps)), (7, .one (.int .i64 (((ps.length : Nat) : Int)))), (8, .one (.int .i64 (((i : Nat) : Int))))] ∧ B = [.row r 27 1 ((ps.take i).map (fun p => [pl p]))]) (m := _) ⟨0, none, Nat.zero_le _, rfl, rfl, rfl⟩ ?_
 rintro m L B ⟨i, r, hp0, hm, rfl, rfl⟩
 by_cases hlt : i < ps.length
 ·obtain ⟨p, hpi⟩ : ∃ p, ps[i]? = some p := ⟨_, List.getElem?_eq_getElem hlt⟩
  have hpp := hp p (List.mem_of_getElem? hpi)
  refine ac_seq (ac_reg ?_)
  refine w_ (p_cmp rfl rfl rfl rfl) ?_
  refine aw_nil ?_
  refine ac_seq ?_
  refine ac_t rfl (decide_eq_true (by omega)) ?_
  refine ac_skip ?_
  refine ac_seq (ac_block (ac_seq (ac_reg ?_)))
  refine w_ (p_index (i) Tryz.runUnderlying143 Tryz.sizeOf27 rfl rfl (rfl) (map_get hpi) rfl rfl) ?_
  refine w_ (p_loadSh Tryz.isAgg27 Tryz.sizeOf27 rfl rfl rfl rfl) ?_
  refine w_ (p_assign rfl rfl) ?_
  refine aw_nil ?_
  refine ac_reg ?_
  refine w_ (p_move rfl rfl) ?_
  refine w_ (p_move rfl rfl) ?_
  refine w_ (p_call Tryz.func33 rfl rfl rfl rfl (d_poly_NormT hpp.1 hpp.2.1 hpp.2.2) rfl) ?_
  refine w_ (p_lit Tryz.runUnderlying143 Tryz.sizeOf27 Tryz.zeroValue27 rfl rfl rfl rfl rfl rfl rfl rfl rfl rfl) ?_
  refine a_append (ls2 := (ps.take (i + 1)).map (fun p => [pl p])) (m2 := i + 1) 0 Tryz.runUnderlying143 Tryz.runUnderlying143 Tryz.typeInfo27 rfl rfl Tryz.sizeOf27 Tryz.zeroValue27 rfl rfl rfl rfl rfl rfl rfl (by rw [List.length_map, List.length_take]; omega) (one_w rfl) (one_f rfl) (by show _ + 1 < _; omega) (by rw [List.take_of_length_le (by rw [List.length_map, List.length_take]; omega), take_snoc hpi, List.map_append]; rfl) (rfl) fun r1 => ?_
  refine w_ (p_assign rfl rfl) ?_
  refine aw_nil ?_
  refine ac_reg ?_
  refine w_ (p_add (r := ((i + 1 : Nat) : Int)) rfl rfl (i64_is (by omega) (by omega)) rfl) ?_
  refine w_ (p_move rfl rfl) ?_
  refine aw_pick [3, 6, 7, 8] rfl ?_
  refine aw_nil ?_
  refine ⟨_, ?_, i + 1, r1, by omega, rfl, rfl, rfl⟩
  omega
 have hi : ps.take i = ps := List.take_of_length_le (by omega)
 refine ac_pub (L2 := _) 0 [3] rfl (allAre1 rfl) (by rw [List.length_map, hi]; omega) (by rw [List.length_map, hi]; omega) rfl ?_
 refine ac_slotEq 3 (y := .one (pls ps)) rfl (by rw [hi]; rfl) ?_
 refine ac_seq (ac_reg ?_)
 refine w_ (p_cmp rfl rfl rfl rfl) ?_
 refine aw_nil ?_
 refine ac_seq ?_
 refine ac_f rfl (decide_eq_false (by omega)) ?_
 refine ac_exit ?_
 repeat refine seqQ_exit ?_
 refine blkQ_here ?_
 refine ac_seq (ac_reg ?_)
 refine w_ (p_move rfl rfl) ?_
 refine w_ (p_assign rfl rfl) ?_
 refine aw_nil ?_
 refine ac_ret ?_
 exact retB_1 Tryz.results84 (rv_tmp rfl rfl) (rfl)
theorem d_det_may {M : List (List (List Int))} (hM : ∀ r ∈ M, r.length = M.length) (h4 : M.length ≤ 4) : Does Tryz.prog 118 [.one (mats M)] (.one (.bool true)) := by
 refine does_ (n := 20) Tryz.func118 rfl Tryz.ntmps118 rfl ?_
 refine ac_seq (ac_reg ?_)
 refine w_ (p_assign rfl rfl) ?_
 refine aw_nil ?_
 refine ac_seq (ac_seq (ac_reg ?_))
 refine w_ (p_move rfl rfl) ?_
 refine w_ (p_len (m := M.length) Tryz.runUnderlying170 rfl (rlen_mats _) rfl) ?_
 refine w_ (p_move rfl rfl) ?_
 refine aw_nil ?_
 refine ac_block ?_
 refine ac_pick [0, 5, 6, 7] rfl ?_
 refine ac_loop (fun m L B => ∃ i, i ≤ M.length ∧ m = M.length - i ∧ L = [(0, .one (mats M)), (5, .one (mats M)), (6, .one (.int .i64 (((M.length : Nat) : Int)))), (7, .one (.int .i64 (((i : Nat) : Int))))] ∧ B = []) (m := _) ⟨0, Nat.zero_le _, rfl, rfl, rfl⟩ ?_
 rintro m L B ⟨i, hp0, hm, rfl, rfl⟩
 by_cases hlt : i < M.length
 ·obtain ⟨r, hr⟩ : ∃ r, M[i]? = some r := ⟨_, List.getElem?_eq_getElem hlt⟩
  have hrl := hM r (List.mem_of_getElem? hr)
  refine ac_seq (ac_reg ?_)
  refine w_ (p_cmp rfl rfl rfl rfl) ?_
  refine aw_nil ?_
  refine ac_seq ?_
  refine ac_t rfl (decide_eq_true (by omega)) ?_
  refine ac_skip ?_
  refine ac_seq (ac_block (ac_seq (ac_reg ?_)))
  refine w_ (p_index (i) Tryz.runUnderlying170 Tryz.sizeOf143 rfl rfl (rfl) (map_get hr) rfl rfl) ?_
  refine w_ (p_loadSh Tryz.isAgg143 Tryz.sizeOf143 rfl rfl rfl rfl) ?_
  refine w_ (p_assign rfl rfl) ?_
  refine aw_nil ?_
  refine ac_seq (ac_reg ?_)
  refine w_ (p_move rfl rfl) ?_
  refine w_ (p_len (m := r.length) Tryz.runUnderlying143 rfl (rlen_pls _) rfl) ?_
  refine w_ (p_move rfl rfl) ?_
  refine w_ (p_len (m := M.length) Tryz.runUnderlying170 rfl (rlen_mats _) rfl) ?_
  refine w_ (p_cmp rfl rfl rfl rfl) ?_
  refine aw_nil ?_
  refine ac_f rfl (decide_eq_false (by omega)) ?_
  refine ac_skip ?_
  refine ac_reg ?_
  refine w_ (p_add (r := ((i + 1 : Nat) : Int)) rfl rfl (i64_is (by omega) (by omega)) rfl) ?_
  refine w_ (p_move rfl rfl) ?_
  refine aw_pick [0, 5, 6, 7] rfl ?_
  refine aw_nil ?_
  refine ⟨_, ?_, i + 1, by omega, rfl, rfl, rfl⟩
  omega
 skip
 refine ac_seq (ac_reg ?_)
 refine w_ (p_cmp rfl rfl rfl rfl) ?_
 refine aw_nil ?_
 refine ac_seq ?_
 refine ac_f rfl (decide_eq_false (by omega)) ?_
 refine ac_exit ?_
 repeat refine seqQ_exit ?_
 refine blkQ_here ?_
 refine ac_seq (ac_reg ?_)
 refine w_ (p_move rfl rfl) ?_
 refine w_ (p_len (m := M.length) Tryz.runUnderlying170 rfl (rlen_mats _) rfl) ?_
 refine w_ (p_cmp rfl rfl rfl rfl) ?_
 refine w_ (p_assign rfl rfl) ?_
 refine aw_nil ?_
 refine ac_ret ?_
 exact retB_1 Tryz.results118 (rv_tmp rfl rfl) (by rw [decide_eq_true (by omega)])
theorem d_det_minor {M : List (List (List Int))} {i : Nat} (hl : M.length ≤ 4) (hr : ∀ r ∈ M, r.length ≤ 4 ∧ ∀ p ∈ r, SmallP p) : Does Tryz.prog 140 [.one (.int .i64 (((i : Nat) : Int))), .one (.int .i64 0), .one (mats M)] (.one (mats ((minor0 i M)))) := by
 refine does_ (n := 45) Tryz.func140 rfl Tryz.ntmps140 rfl ?_
 refine ac_seq (ac_reg ?_)
 refine w_ (p_assign rfl rfl) ?_
 refine aw_nil ?_
 refine ac_seq (ac_reg ?_)
 refine w_ (p_assign rfl rfl) ?_
 refine aw_nil ?_
 refine ac_seq (ac_seq (ac_reg ?_))
 refine w_ (p_move rfl rfl) ?_
 refine w_ (p_len (m := M.length) Tryz.runUnderlying170 rfl (rlen_mats _) rfl) ?_
 refine w_ (p_move rfl rfl) ?_
 refine aw_nil ?_
 refine ac_block ?_
 refine ac_ownNil [7] 143 1 rfl (allAre1 rfl) rfl ?_
 refine ac_pick [0, 1, 7, 13, 14, 15] rfl ?_
 refine ac_loop (fun m L B => ∃ k r O, k ≤ M.length ∧ O = minor0 i (M.take k) ∧ O.length ≤ k ∧ m = M.length - k ∧ L = [(0, .one (.int .i64 (((i : Nat) : Int)))), (1, .one (.int .i64 0)), (7, .one (.orow r 1 0 O.length)), (13, .one (mats M)), (14, .one (.int .i64 (((M.length : Nat) : Int)))), (15, .one (.int .i64 (((k : Nat) : Int))))] ∧ B = [.row r 143 1 (O.map (fun r => [pls r]))]) (m := _) ⟨0, none, [], Nat.zero_le _, rfl, Nat.zero_le _, rfl, rfl, rfl⟩ ?_
 rintro m L B ⟨k, r, O, hp0, hp1, hp2, hm, rfl, rfl⟩
 by_cases hlt : k < M.length
 ·obtain ⟨w, hw⟩ : ∃ w, M[k]? = some w := ⟨_, List.getElem?_eq_getElem hlt⟩
  obtain ⟨hwl, hwp⟩ := hr w (List.mem_of_getElem? hw)
  by_cases hki : k = i
  ·skip
   refine ac_seq (ac_reg ?_)
   refine w_ (p_cmp rfl rfl rfl rfl) ?_
   refine aw_nil ?_
   refine ac_seq ?_
   refine ac_t rfl (decide_eq_true (by omega)) ?_
   refine ac_skip ?_
   refine ac_seq (ac_block (ac_seq (ac_reg ?_)))
   refine w_ (p_move rfl rfl) ?_
   refine w_ (p_index (k) Tryz.runUnderlying170 Tryz.sizeOf143 rfl rfl (rfl) (map_get hw) rfl rfl) ?_
   refine w_ (p_loadSh Tryz.isAgg143 Tryz.sizeOf143 rfl rfl rfl rfl) ?_
   refine w_ (p_assign rfl rfl) ?_
   refine w_ (p_assign rfl rfl) ?_
   refine aw_nil ?_
   refine ac_seq (ac_seq (ac_reg ?_))
   refine w_ (p_move rfl rfl) ?_
   refine w_ (p_move rfl rfl) ?_
   refine w_ (p_cmp rfl rfl rfl rfl) ?_
   refine aw_nil ?_
   refine ac_t rfl (decide_eq_true (by omega)) ?_
   refine ac_exit ?_
   repeat refine seqQ_exit ?_
   refine blkQ_here ?_
   refine ac_reg ?_
   refine w_ (p_add (r := ((k + 1 : Nat) : Int)) rfl rfl (i64_is (by omega) (by omega)) rfl) ?_
   refine w_ (p_move rfl rfl) ?_
   refine aw_pick [0, 1, 7, 13, 14, 15] rfl ?_
   refine aw_nil ?_
   refine ⟨_, ?_, k + 1, r, O, by omega, by rw [hp1, hki, minor_eq (by rw [← hki]; exact hw)], by omega, rfl, rfl, rfl⟩
   omega
  skip
  refine ac_seq (ac_reg ?_)
  refine w_ (p_cmp rfl rfl rfl rfl) ?_
  refine aw_nil ?_
  refine ac_seq ?_
  refine ac_t rfl (decide_eq_true (by omega)) ?_
  refine ac_skip ?_
  refine ac_seq (ac_block (ac_seq (ac_reg ?_)))
  refine w_ (p_move rfl rfl) ?_
  refine w_ (p_index (k) Tryz.runUnderlying170 Tryz.sizeOf143 rfl rfl (rfl) (map_get hw) rfl rfl) ?_
  refine w_ (p_loadSh Tryz.isAgg143 Tryz.sizeOf143 rfl rfl rfl rfl) ?_
  refine w_ (p_assign rfl rfl) ?_
  refine w_ (p_assign rfl rfl) ?_
  refine aw_nil ?_
  refine ac_seq (ac_seq (ac_reg ?_))
  refine w_ (p_move rfl rfl) ?_
  refine w_ (p_move rfl rfl) ?_
  refine w_ (p_cmp rfl rfl rfl rfl) ?_
  refine aw_nil ?_
  refine ac_f rfl (decide_eq_false (by omega)) ?_
  refine ac_skip ?_
  refine ac_seq (ac_reg ?_)
  refine w_ (p_assign rfl rfl) ?_
  refine aw_nil ?_
  refine ac_seq (ac_seq (ac_reg ?_))
  refine w_ (p_move rfl rfl) ?_
  refine w_ (p_len (m := w.length) Tryz.runUnderlying143 rfl (rlen_pls _) rfl) ?_
  refine w_ (p_move rfl rfl) ?_
  refine aw_nil ?_
  refine ac_block ?_
  refine ac_ownNil [10] 27 1 rfl (allAre1 rfl) rfl ?_
  refine ac_pick [0, 1, 7, 13, 14, 15, 23, 24, 10, 25] rfl ?_
  refine ac_loop (fun m L B => ∃ c q Q, c ≤ w.length ∧ Q = (w.take c).drop 1 ∧ Q.length ≤ c ∧ m = w.length - c ∧ L = [(0, .one (.int .i64 (((i : Nat) : Int)))), (1, .one (.int .i64 0)), (7, .one (.orow r 1 0 O.length)), (13, .one (mats M)), (14, .one (.int .i64 (((M.length : Nat) : Int)))), (15, .one (.int .i64 (((k : Nat) : Int)))), (23, .one (pls w)), (24, .one (.int .i64 (((w.length : Nat) : Int)))), (10, .one (.orow q 1 0 Q.length)), (25, .one (.int .i64 (((c : Nat) : Int))))] ∧ B = [.row q 27 1 (Q.map (fun p => [pl p])), .row r 143 1 (O.map (fun r => [pls r]))]) (m := _) ⟨0, none, [], Nat.zero_le _, rfl, Nat.zero_le _, rfl, rfl, rfl⟩ ?_
  rintro m L B ⟨c, q, Q, hq0, hq1, hq2, hm, rfl, rfl⟩
  by_cases h2 : c < w.length
  ·obtain ⟨p, hpc⟩ : ∃ p, w[c]? = some p := ⟨_, List.getElem?_eq_getElem h2⟩
   have hpp := hwp p (List.mem_of_getElem? hpc)
   by_cases hc0 : c = 0
   ·skip
    refine ac_seq (ac_reg ?_)
    refine w_ (p_cmp rfl rfl rfl rfl) ?_
    refine aw_nil ?_
    refine ac_seq ?_
    refine ac_t rfl (decide_eq_true (by omega)) ?_
    refine ac_skip ?_
    refine ac_seq (ac_block (ac_seq (ac_reg ?_)))
    refine w_ (p_move rfl rfl) ?_
    refine w_ (p_index (c) Tryz.runUnderlying143 Tryz.sizeOf27 rfl rfl (rfl) (map_get hpc) rfl rfl) ?_
    refine w_ (p_loadSh Tryz.isAgg27 Tryz.sizeOf27 rfl rfl rfl rfl) ?_
    refine w_ (p_assign rfl rfl) ?_
    refine w_ (p_assign rfl rfl) ?_
    refine aw_nil ?_
    refine ac_seq (ac_reg ?_)
    refine w_ (p_move rfl rfl) ?_
    refine w_ (p_move rfl rfl) ?_
    refine w_ (p_cmp rfl rfl rfl rfl) ?_
    refine aw_nil ?_
    refine ac_f rfl (decide_eq_false (fun h => h (by omega))) ?_
    refine ac_skip ?_
    refine ac_reg ?_
    refine w_ (p_add (r := ((c + 1 : Nat) : Int)) rfl rfl (i64_is (by omega) (by omega)) rfl) ?_
    refine w_ (p_move rfl rfl) ?_
    refine aw_pick [0, 1, 7, 13, 14, 15, 23, 24, 10, 25] rfl ?_
    refine aw_nil ?_
    refine ⟨_, ?_, c + 1, q, Q, by omega, by rw [hq1, hc0]; exact (drop_zero' w).symm, by omega, rfl, rfl, rfl⟩
    omega
   skip
   refine ac_seq (ac_reg ?_)
   refine w_ (p_cmp rfl rfl rfl rfl) ?_
   refine aw_nil ?_
   refine ac_seq ?_
   refine ac_t rfl (decide_eq_true (by omega)) ?_
   refine ac_skip ?_
   refine ac_seq (ac_block (ac_seq (ac_reg ?_)))
   refine w_ (p_move rfl rfl) ?_
   refine w_ (p_index (c) Tryz.runUnderlying143 Tryz.sizeOf27 rfl rfl (rfl) (map_get hpc) rfl rfl) ?_
   refine w_ (p_loadSh Tryz.isAgg27 Tryz.sizeOf27 rfl rfl rfl rfl) ?_
   refine w_ (p_assign rfl rfl) ?_
   refine w_ (p_assign rfl rfl) ?_
   refine aw_nil ?_
   refine ac_seq (ac_reg ?_)
   refine w_ (p_move rfl rfl) ?_
   refine w_ (p_move rfl rfl) ?_
   refine w_ (p_cmp rfl rfl rfl rfl) ?_
   refine aw_nil ?_
   refine ac_t rfl (decide_eq_true (by omega)) ?_
   refine ac_reg ?_
   refine w_ (p_move rfl rfl) ?_
   refine w_ (p_move rfl rfl) ?_
   refine w_ (p_call Tryz.func33 rfl rfl rfl rfl (d_poly_NormT hpp.1 hpp.2.1 hpp.2.2) rfl) ?_
   refine w_ (p_lit Tryz.runUnderlying143 Tryz.sizeOf27 Tryz.zeroValue27 rfl rfl rfl rfl rfl rfl rfl rfl rfl rfl) ?_
   refine a_append (ls2 := (Q ++ [p]).map (fun p => [pl p])) (m2 := (Q ++ [p]).length) 0 Tryz.runUnderlying143 Tryz.runUnderlying143 Tryz.typeInfo27 rfl rfl Tryz.sizeOf27 Tryz.zeroValue27 rfl rfl rfl rfl rfl rfl rfl (by rw [List.length_map]; exact Nat.le_refl _) (one_w rfl) (one_f rfl) (by show _ + 1 < _; omega) (by rw [List.take_of_length_le (by rw [List.length_map]; exact Nat.le_refl _), List.map_append]; rfl) (by rw [List.length_append]; rfl) fun r1 => ?_
   refine w_ (p_assign rfl rfl) ?_
   refine aw_nil ?_
   refine ac_reg ?_
   refine w_ (p_add (r := ((c + 1 : Nat) : Int)) rfl rfl (i64_is (by omega) (by omega)) rfl) ?_
   refine w_ (p_move rfl rfl) ?_
   refine aw_pick [0, 1, 7, 13, 14, 15, 23, 24, 10, 25] rfl ?_
   refine aw_nil ?_
   refine ⟨_, ?_, c + 1, r1, (Q ++ [p]), by omega, by rw [hq1, drop_snoc hpc (by omega)], by rw [List.length_append]; show Q.length + 1 ≤ _; omega, rfl, rfl, rfl⟩
   omega
  have hQ : Q = w.drop 1 := by rw [hq1, List.take_of_length_le (by omega)]
  refine ac_pub (L2 := _) 0 [10] rfl (allAre1 rfl) (by rw [List.length_map]) (by rw [List.length_map]; omega) rfl ?_
  refine ac_slotEq 10 (y := .one (pls (w.drop 1))) rfl (by rw [hQ]; rfl) ?_
  refine ac_seq (ac_reg ?_)
  refine w_ (p_cmp rfl rfl rfl rfl) ?_
  refine aw_nil ?_
  refine ac_seq ?_
  refine ac_f rfl (decide_eq_false (by omega)) ?_
  refine ac_exit ?_
  repeat refine seqQ_exit ?_
  refine blkQ_here ?_
  refine ac_reg ?_
  refine w_ (p_move rfl rfl) ?_
  refine w_ (p_move rfl rfl) ?_
  refine w_ (p_lit Tryz.runUnderlying170 Tryz.sizeOf143 Tryz.zeroValue143 rfl rfl rfl rfl rfl rfl rfl rfl rfl rfl) ?_
  refine a_append (ls2 := (O ++ [w.drop 1]).map (fun r => [pls r])) (m2 := (O ++ [w.drop 1]).length) 0 Tryz.runUnderlying170 Tryz.runUnderlying170 Tryz.typeInfo143 rfl rfl Tryz.sizeOf143 Tryz.zeroValue143 rfl rfl rfl rfl rfl rfl rfl (by rw [List.length_map]; exact Nat.le_refl _) (one_w rfl) (one_f rfl) (by show _ + 1 < _; omega) (by rw [List.take_of_length_le (by rw [List.length_map]; exact Nat.le_refl _), List.map_append]; rfl) (by rw [List.length_append]; rfl) fun r2 => ?_
  refine w_ (p_assign rfl rfl) ?_
  refine aw_nil ?_
  refine ac_reg ?_
  refine w_ (p_add (r := ((k + 1 : Nat) : Int)) rfl rfl (i64_is (by omega) (by omega)) rfl) ?_
  refine w_ (p_move rfl rfl) ?_
  refine aw_pick [0, 1, 7, 13, 14, 15] rfl ?_
  refine aw_nil ?_
  refine ⟨_, ?_, k + 1, r2, (O ++ [w.drop 1]), by omega, by rw [hp1, minor_ne hw hki], by rw [List.length_append]; show O.length + 1 ≤ _; omega, rfl, rfl, rfl⟩
  omega
 have hO : O = minor0 i M := by rw [hp1, List.take_of_length_le (by omega)]
 refine ac_pub (L2 := _) 0 [7] rfl (allAre1 rfl) (by rw [List.length_map]) (by rw [List.length_map]; omega) rfl ?_
 refine ac_slotEq 7 (y := .one (mats (minor0 i M))) rfl (by rw [hO]; rfl) ?_
 refine ac_seq (ac_reg ?_)
 refine w_ (p_cmp rfl rfl rfl rfl) ?_
 refine aw_nil ?_
 refine ac_seq ?_
 refine ac_f rfl (decide_eq_false (by omega)) ?_
 refine ac_exit ?_
 repeat refine seqQ_exit ?_
 refine blkQ_here ?_
 refine ac_seq (ac_reg ?_)
 refine w_ (p_move rfl rfl) ?_
 refine w_ (p_assign rfl rfl) ?_
 refine aw_nil ?_
 refine ac_ret ?_
 exact retB_1 Tryz.results140 (rv_tmp rfl rfl) (rfl)
theorem rows_small {cs : List (Nat × Nat)} {M : List (List (List Int))} (hM : M.length ≤ 4) (hcs : cs.length = M.length) (hc : ColsOk cs) (hr : ∀ r ∈ M, RowB cs r) (hb : bsum cs ≤ 1000000000) : ∀ r ∈ M, r.length ≤ 4 ∧ ∀ p ∈ r, SmallP p := by
 intro r h
 have h1 := hr r h
 refine ⟨by rw [h1.len]; omega, fun p hp => ?_⟩
 obtain ⟨h2, c, h3, h4, h5⟩ := h1.get p hp
 have := hc c h3
 have := bsum_le h3
 exact ⟨h2, by omega, bd_mono h5 (by omega)⟩
theorem lsum_le : ∀ {cs : List (Nat × Nat)}, ColsOk cs → lsum cs ≤ 31 * cs.length
 | [], _ => Nat.le_refl _
 | c :: cs, h => by
  have h1 := h c (List.mem_cons_self ..)
  have h2 := lsum_le (cs := cs) fun x hx => h x (List.mem_cons_of_mem _ hx)
  simp only [lsum, List.length_cons]; omega
theorem d_det_sum0 {M : List (List (List Int))} (hM : M.length = 0) : Does Tryz.prog 119 [.one (mats M)] (.one (pl (det 0 M))) := by
 refine does_ (n := 44) Tryz.func119 rfl Tryz.ntmps119 rfl ?_
 refine ac_seq (ac_reg ?_)
 refine w_ (p_assign rfl rfl) ?_
 refine aw_nil ?_
 refine ac_seq (ac_seq (ac_reg ?_))
 refine w_ (p_move rfl rfl) ?_
 refine w_ (p_len (m := M.length) Tryz.runUnderlying170 rfl (rlen_mats _) rfl) ?_
 refine w_ (p_cmp rfl rfl rfl rfl) ?_
 refine aw_nil ?_
 refine ac_t rfl (decide_eq_true (by omega)) ?_
 refine ac_seq (ac_reg ?_)
 refine w_ (p_lit Tryz.runUnderlying42 Tryz.sizeOf3 Tryz.zeroValue3 rfl rfl rfl rfl rfl rfl rfl rfl rfl rfl) ?_
 refine w_ (p_call Tryz.func12 rfl rfl rfl rfl (d_poly_Of (p := [1]) (by decide) (by decide)) rfl) ?_
 refine w_ (p_assign rfl rfl) ?_
 refine aw_nil ?_
 refine ac_ret ?_
 exact retB_1 Tryz.results119 (rv_tmp rfl rfl) (rfl)
set_option maxRecDepth 20000 in
theorem d_det_sum1 {dn : Nat} {c0 : Nat × Nat} {cs : List (Nat × Nat)} {M : List (List (List Int))} (hM : M.length = dn + 1) (hcs : cs.length = dn) (h4 : dn + 1 ≤ 4) (hc : ColsOk (c0 :: cs)) (hr : ∀ r ∈ M, RowB (c0 :: cs) r) (hb : bsum (c0 :: cs) ≤ 1000000000)
  (ih : ∀ M' : List (List (List Int)), M'.length = dn → (∀ r ∈ M', RowB cs r) → Does Tryz.prog 119 [.one (mats M')] (.one (pl (det dn M')))) : Does Tryz.prog 119 [.one (mats M)] (.one (pl (det (dn + 1) M))) := by
 refine does_ (n := 44) Tryz.func119 rfl Tryz.ntmps119 rfl ?_
 have hsm := rows_small (by omega) (by simp; omega) hc hr hb
 have hf : ∀ i, i < M.length → DetB cs (det dn (minor0 i M)) := fun i hi => det_b dn cs (minor0 i M) hcs (by rw [minor_len hi]; omega) (by omega) (fun x hx => hc x (List.mem_cons_of_mem _ hx)) (minor_rows hr i)
 have hbs : c0.2 + bsum cs ≤ 1000000000 := hb
 skip
 refine ac_seq (ac_reg ?_)
 refine w_ (p_assign rfl rfl) ?_
 refine aw_nil ?_
 refine ac_seq (ac_seq (ac_reg ?_))
 refine w_ (p_move rfl rfl) ?_
 refine w_ (p_len (m := M.length) Tryz.runUnderlying170 rfl (rlen_mats _) rfl) ?_
 refine w_ (p_cmp rfl rfl rfl rfl) ?_
 refine aw_nil ?_
 refine ac_f rfl (decide_eq_false (by omega)) ?_
 refine ac_skip ?_
 refine ac_seq (ac_reg ?_)
 refine w_ (p_assign rfl rfl) ?_
 refine aw_nil ?_
 refine ac_seq (ac_seq (ac_reg ?_))
 refine w_ (p_move rfl rfl) ?_
 refine w_ (p_len (m := M.length) Tryz.runUnderlying170 rfl (rlen_mats _) rfl) ?_
 refine w_ (p_move rfl rfl) ?_
 refine aw_nil ?_
 refine ac_block ?_
 refine ac_slotNil 3 rfl ?_
 refine ac_pick [0, 3, 12, 13, 14] rfl ?_
 refine ac_loop (fun m L B => ∃ i d, i ≤ M.length ∧ d = detK (det dn) M i ∧ m = M.length - i ∧ L = [(0, .one (mats M)), (3, .one (pl d)), (12, .one (mats M)), (13, .one (.int .i64 (((M.length : Nat) : Int)))), (14, .one (.int .i64 (((i : Nat) : Int))))] ∧ B = []) (m := _) ⟨0, [], Nat.zero_le _, rfl, rfl, rfl, rfl⟩ ?_
 rintro m L B ⟨i, d, hp0, hp1, hm, rfl, rfl⟩
 by_cases hlt : i < M.length
 ·obtain ⟨r, hr1⟩ : ∃ r, M[i]? = some r := ⟨_, List.getElem?_eq_getElem hlt⟩
  obtain ⟨p, hp0, hpe, tp, lp, bp⟩ := head_of hr hr1
  have hcc := hc c0 (List.mem_cons_self ..)
  have hdk := detK_b hc hr hf i (by omega) (by omega)
  rw [← hp1] at hdk
  have hmi := hf i hlt
  have hls := lsum_le (cs := cs) (fun x hx => hc x (List.mem_cons_of_mem _ hx))
  have hm1 := len_pmul p (det dn (minor0 i M))
  have hm2 := bd_pmul (u := 5) bp hmi.2.2 (by omega)
  have hdl := hdk.2.1
  have hml := hmi.2.1
  by_cases h0 : p.length = 0
  ·skip
   refine ac_seq (ac_reg ?_)
   refine w_ (p_cmp rfl rfl rfl rfl) ?_
   refine aw_nil ?_
   refine ac_seq ?_
   refine ac_t rfl (decide_eq_true (by omega)) ?_
   refine ac_skip ?_
   refine ac_seq (ac_block (ac_seq (ac_reg ?_)))
   refine w_ (p_move rfl rfl) ?_
   refine w_ (p_index (i) Tryz.runUnderlying170 Tryz.sizeOf143 rfl rfl (rfl) (map_get hr1) rfl rfl) ?_
   refine w_ (p_loadSh Tryz.isAgg143 Tryz.sizeOf143 rfl rfl rfl rfl) ?_
   refine w_ (p_assign rfl rfl) ?_
   refine w_ (p_assign rfl rfl) ?_
   refine aw_nil ?_
   refine ac_seq (ac_seq (ac_reg ?_))
   refine w_ (p_move rfl rfl) ?_
   refine w_ (p_index (0) Tryz.runUnderlying143 Tryz.sizeOf27 rfl rfl (rfl) (map_get hp0) rfl rfl) ?_
   refine w_ (p_loadSh Tryz.isAgg27 Tryz.sizeOf27 rfl rfl rfl rfl) ?_
   refine w_ (p_call Tryz.func33 rfl rfl rfl rfl (d_poly_NormT tp (by omega) (bd_mono bp (by omega))) rfl) ?_
   refine w_ (p_len (m := p.length) Tryz.runUnderlying27 rfl (rlen_pl _) rfl) ?_
   refine w_ (p_cmp rfl rfl rfl rfl) ?_
   refine aw_nil ?_
   refine ac_t rfl (decide_eq_true (by omega)) ?_
   refine ac_exit ?_
   repeat refine seqQ_exit ?_
   refine blkQ_here ?_
   refine ac_reg ?_
   refine w_ (p_add (r := ((i + 1 : Nat) : Int)) rfl rfl (i64_is (by omega) (by omega)) rfl) ?_
   refine w_ (p_move rfl rfl) ?_
   refine aw_pick [0, 3, 12, 13, 14] rfl ?_
   refine aw_nil ?_
   refine ⟨_, ?_, i + 1, d, by omega, by rw [hp1]; show _ = detK (det dn) M (i + 1); simp only [detK]; rw [hpe, if_pos h0], rfl, rfl, rfl⟩
   omega
  by_cases h2 : i % 2 = 0
  ·skip
   refine ac_seq (ac_reg ?_)
   refine w_ (p_cmp rfl rfl rfl rfl) ?_
   refine aw_nil ?_
   refine ac_seq ?_
   refine ac_t rfl (decide_eq_true (by omega)) ?_
   refine ac_skip ?_
   refine ac_seq (ac_block (ac_seq (ac_reg ?_)))
   refine w_ (p_move rfl rfl) ?_
   refine w_ (p_index (i) Tryz.runUnderlying170 Tryz.sizeOf143 rfl rfl (rfl) (map_get hr1) rfl rfl) ?_
   refine w_ (p_loadSh Tryz.isAgg143 Tryz.sizeOf143 rfl rfl rfl rfl) ?_
   refine w_ (p_assign rfl rfl) ?_
   refine w_ (p_assign rfl rfl) ?_
   refine aw_nil ?_
   refine ac_seq (ac_seq (ac_reg ?_))
   refine w_ (p_move rfl rfl) ?_
   refine w_ (p_index (0) Tryz.runUnderlying143 Tryz.sizeOf27 rfl rfl (rfl) (map_get hp0) rfl rfl) ?_
   refine w_ (p_loadSh Tryz.isAgg27 Tryz.sizeOf27 rfl rfl rfl rfl) ?_
   refine w_ (p_call Tryz.func33 rfl rfl rfl rfl (d_poly_NormT tp (by omega) (bd_mono bp (by omega))) rfl) ?_
   refine w_ (p_len (m := p.length) Tryz.runUnderlying27 rfl (rlen_pl _) rfl) ?_
   refine w_ (p_cmp rfl rfl rfl rfl) ?_
   refine aw_nil ?_
   refine ac_f rfl (decide_eq_false (by omega)) ?_
   refine ac_skip ?_
   refine ac_seq ?_
   refine ac_draw mixed_ 7 [25, 26, 27, 28, 29, 30, 31] [[], [0], [1], [], [], [3, 4], [5]] [.one (pls r), .one (.sh [pl p]), .one (pl p), .one (.int .i64 (((i : Nat) : Int))), .one (mats M), .one (mats ((minor0 i M))), .one (pl ((det dn (minor0 i M))))] rfl rfl rfl ⟨p_move rfl rfl, p_index (0) Tryz.runUnderlying143 Tryz.sizeOf27 rfl rfl (rfl) (map_get hp0) rfl rfl, p_loadSh Tryz.isAgg27 Tryz.sizeOf27 rfl rfl rfl rfl, p_move rfl rfl, p_move rfl rfl, p_call Tryz.func140 rfl rfl rfl rfl (d_det_minor (by omega) hsm) rfl, p_call Tryz.func119 rfl rfl rfl rfl (ih _ (by rw [minor_len hlt]; omega) (minor_rows hr i)) rfl, trivial⟩ rfl ?_
   refine w_ (p_call Tryz.func88 rfl rfl rfl rfl (d_poly_Mul tp hmi.1 (by omega) (by omega) bp hmi.2.2 (by omega)) rfl) ?_
   refine w_ (p_assign rfl rfl) ?_
   refine aw_nil ?_
   refine ac_seq (ac_reg ?_)
   refine w_ (p_move rfl rfl) ?_
   refine w_ (p_rem (r := ((i % 2 : Nat) : Int)) rfl rfl (by omega) (by rw [show Int.tmod ((i : Nat) : Int) 2 = ((i % 2 : Nat) : Int) from rfl] <;> exact wrap64_of (by omega) (by omega)) rfl) ?_
   refine w_ (p_cmp rfl rfl rfl rfl) ?_
   refine aw_nil ?_
   refine ac_t rfl (decide_eq_true (by omega)) ?_
   refine ac_reg ?_
   refine w_ (p_move rfl rfl) ?_
   refine w_ (p_move rfl rfl) ?_
   refine w_ (p_call Tryz.func87 rfl rfl rfl rfl (d_poly_Add (by omega) (by omega) (bd_mono hdk.2.2 (by omega)) (bd_mono hm2 (by omega))) rfl) ?_
   refine w_ (p_assign rfl rfl) ?_
   refine aw_nil ?_
   refine ac_reg ?_
   refine w_ (p_add (r := ((i + 1 : Nat) : Int)) rfl rfl (i64_is (by omega) (by omega)) rfl) ?_
   refine w_ (p_move rfl rfl) ?_
   refine aw_pick [0, 3, 12, 13, 14] rfl ?_
   refine aw_nil ?_
   refine ⟨_, ?_, i + 1, (padd d (pmul p ((det dn (minor0 i M))))), by omega, by show _ = detK (det dn) M (i + 1); simp only [detK]; rw [hpe, if_neg h0, if_pos h2, ← hp1], rfl, rfl, rfl⟩
   omega
  skip
  refine ac_seq (ac_reg ?_)
  refine w_ (p_cmp rfl rfl rfl rfl) ?_
  refine aw_nil ?_
  refine ac_seq ?_
  refine ac_t rfl (decide_eq_true (by omega)) ?_
  refine ac_skip ?_
  refine ac_seq (ac_block (ac_seq (ac_reg ?_)))
  refine w_ (p_move rfl rfl) ?_
  refine w_ (p_index (i) Tryz.runUnderlying170 Tryz.sizeOf143 rfl rfl (rfl) (map_get hr1) rfl rfl) ?_
  refine w_ (p_loadSh Tryz.isAgg143 Tryz.sizeOf143 rfl rfl rfl rfl) ?_
  refine w_ (p_assign rfl rfl) ?_
  refine w_ (p_assign rfl rfl) ?_
  refine aw_nil ?_
  refine ac_seq (ac_seq (ac_reg ?_))
  refine w_ (p_move rfl rfl) ?_
  refine w_ (p_index (0) Tryz.runUnderlying143 Tryz.sizeOf27 rfl rfl (rfl) (map_get hp0) rfl rfl) ?_
  refine w_ (p_loadSh Tryz.isAgg27 Tryz.sizeOf27 rfl rfl rfl rfl) ?_
  refine w_ (p_call Tryz.func33 rfl rfl rfl rfl (d_poly_NormT tp (by omega) (bd_mono bp (by omega))) rfl) ?_
  refine w_ (p_len (m := p.length) Tryz.runUnderlying27 rfl (rlen_pl _) rfl) ?_
  refine w_ (p_cmp rfl rfl rfl rfl) ?_
  refine aw_nil ?_
  refine ac_f rfl (decide_eq_false (by omega)) ?_
  refine ac_skip ?_
  refine ac_seq ?_
  refine ac_draw mixed_ 7 [25, 26, 27, 28, 29, 30, 31] [[], [0], [1], [], [], [3, 4], [5]] [.one (pls r), .one (.sh [pl p]), .one (pl p), .one (.int .i64 (((i : Nat) : Int))), .one (mats M), .one (mats ((minor0 i M))), .one (pl ((det dn (minor0 i M))))] rfl rfl rfl ⟨p_move rfl rfl, p_index (0) Tryz.runUnderlying143 Tryz.sizeOf27 rfl rfl (rfl) (map_get hp0) rfl rfl, p_loadSh Tryz.isAgg27 Tryz.sizeOf27 rfl rfl rfl rfl, p_move rfl rfl, p_move rfl rfl, p_call Tryz.func140 rfl rfl rfl rfl (d_det_minor (by omega) hsm) rfl, p_call Tryz.func119 rfl rfl rfl rfl (ih _ (by rw [minor_len hlt]; omega) (minor_rows hr i)) rfl, trivial⟩ rfl ?_
  refine w_ (p_call Tryz.func88 rfl rfl rfl rfl (d_poly_Mul tp hmi.1 (by omega) (by omega) bp hmi.2.2 (by omega)) rfl) ?_
  refine w_ (p_assign rfl rfl) ?_
  refine aw_nil ?_
  refine ac_seq (ac_reg ?_)
  refine w_ (p_move rfl rfl) ?_
  refine w_ (p_rem (r := ((i % 2 : Nat) : Int)) rfl rfl (by omega) (by rw [show Int.tmod ((i : Nat) : Int) 2 = ((i % 2 : Nat) : Int) from rfl] <;> exact wrap64_of (by omega) (by omega)) rfl) ?_
  refine w_ (p_cmp rfl rfl rfl rfl) ?_
  refine aw_nil ?_
  refine ac_f rfl (decide_eq_false (by omega)) ?_
  refine ac_reg ?_
  refine w_ (p_move rfl rfl) ?_
  refine w_ (p_move rfl rfl) ?_
  refine w_ (p_call Tryz.func81 rfl rfl rfl rfl (d_poly_Sub (by omega) (by omega) (bd_mono hdk.2.2 (by omega)) (bd_mono hm2 (by omega))) rfl) ?_
  refine w_ (p_assign rfl rfl) ?_
  refine aw_nil ?_
  refine ac_reg ?_
  refine w_ (p_add (r := ((i + 1 : Nat) : Int)) rfl rfl (i64_is (by omega) (by omega)) rfl) ?_
  refine w_ (p_move rfl rfl) ?_
  refine aw_pick [0, 3, 12, 13, 14] rfl ?_
  refine aw_nil ?_
  refine ⟨_, ?_, i + 1, (psub d (pmul p ((det dn (minor0 i M))))), by omega, by show _ = detK (det dn) M (i + 1); simp only [detK]; rw [hpe, if_neg h0, if_neg h2, ← hp1], rfl, rfl, rfl⟩
  omega
 have hi : i = M.length := by omega
 refine ac_seq (ac_reg ?_)
 refine w_ (p_cmp rfl rfl rfl rfl) ?_
 refine aw_nil ?_
 refine ac_seq ?_
 refine ac_f rfl (decide_eq_false (by omega)) ?_
 refine ac_exit ?_
 repeat refine seqQ_exit ?_
 refine blkQ_here ?_
 refine ac_seq (ac_reg ?_)
 refine w_ (p_move rfl rfl) ?_
 refine w_ (p_assign rfl rfl) ?_
 refine aw_nil ?_
 refine ac_ret ?_
 exact retB_1 Tryz.results119 (rv_tmp rfl rfl) (by rw [hp1, hi, hM]; rfl)
theorem d_det_sum : ∀ (n : Nat) (cs : List (Nat × Nat)) (M : List (List (List Int))), cs.length = n → M.length = n → n ≤ 4 → ColsOk cs → (∀ r ∈ M, RowB cs r) → bsum cs ≤ 1000000000 → Does Tryz.prog 119 [.one (mats M)] (.one (pl (det n M)))
 | 0, _, M, _, hM, _, _, _, _ => d_det_sum0 hM
 | m + 1, [], _, hcs, _, _, _, _, _ => by simp at hcs
 | m + 1, c :: cs, M, hcs, hM, h4, hc, hr, hb => d_det_sum1 hM (by simpa using hcs) h4 hc hr hb fun M' h1 h2 => d_det_sum m cs M' (by simpa using hcs) h1 (by omega) (fun x hx => hc x (List.mem_cons_of_mem _ hx)) h2 (by simp only [bsum] at hb; omega)
theorem d_det_Det {n : Nat} {cs : List (Nat × Nat)} {M : List (List (List Int))} (hcs : cs.length = n) (hM : M.length = n) (h4 : n ≤ 4) (hc : ColsOk cs) (hr : ∀ r ∈ M, RowB cs r) (hb : bsum cs ≤ 1000000000) : Does Tryz.prog 85 [.one (mats M)] (.tup [.one (pl (det n M)), .one (.int .i64 0)]) := by
 refine does_ (n := 9) Tryz.func85 rfl Tryz.ntmps85 rfl ?_
 refine ac_seq (ac_reg ?_)
 refine w_ (p_assign rfl rfl) ?_
 refine w_ (p_assign rfl rfl) ?_
 refine aw_nil ?_
 refine ac_seq (ac_seq (ac_reg ?_))
 refine w_ (p_move rfl rfl) ?_
 refine w_ (p_call Tryz.func118 rfl rfl rfl rfl (d_det_may (fun r h => by rw [(hr r h).len]; omega) (by omega)) rfl) ?_
 refine w_ (p_not rfl rfl) ?_
 refine aw_nil ?_
 refine ac_f rfl (rfl) ?_
 refine ac_skip ?_
 refine ac_seq (ac_reg ?_)
 refine w_ (p_move rfl rfl) ?_
 refine w_ (p_call Tryz.func119 rfl rfl rfl rfl (d_det_sum n cs M hcs hM h4 hc hr hb) rfl) ?_
 refine w_ (p_assign rfl rfl) ?_
 refine w_ (p_assign rfl rfl) ?_
 refine aw_nil ?_
 refine ac_ret ?_
 exact retB_2 Tryz.results85 (rv_tmp rfl rfl) (rv_tmp rfl rfl) (rfl)
theorem orow3_small {a : Crv} (h : Nml a) (c : Cb a) : ∀ p ∈ orow3 a, SmallP p := by
 intro p hp
 obtain ⟨h1, k, h2, h3, h4⟩ := (orow3_b h c).get p hp
 have : k.1 ≤ 31 ∧ k.2 ≤ 1048576 := by
  simp only [List.mem_cons, List.not_mem_nil, or_false] at h2
  rcases h2 with rfl | rfl | rfl <;> decide
 exact ⟨h1, by omega, bd_mono h4 (by omega)⟩
theorem orows3 {a b c : Crv} (ha : Nml a) (hb : Nml b) (hc : Nml c) (ca : Cb a) (cb : Cb b) (cc : Cb c) : ∀ r ∈ [orow3 a, orow3 b, orow3 c], RowB cols3 r := by
 intro r hr
 simp only [List.mem_cons, List.not_mem_nil, or_false] at hr
 rcases hr with rfl | rfl | rfl
 ·exact orow3_b ha ca
 ·exact orow3_b hb cb
 exact orow3_b hc cc
theorem d_pred_Orient1 {a : Crv} (ha : Nml a) (ca : Cb a) : Does Tryz.prog 83 [.agg [pl a.x, pl a.y, sg a.d, mg a.d]] (.one (pls ((orow3 a)))) := by
 refine does_ (n := 14) Tryz.func83 rfl Tryz.ntmps83 rfl ?_
 refine ac_seq (ac_reg ?_)
 refine a_box rfl rfl rfl fun g1 => ?_
 refine w_ (p_assign rfl rfl) ?_
 refine aw_nil ?_
 refine ac_seq (ac_reg ?_)
 refine w_ (p_loadOw 0 Tryz.isAgg32 Tryz.sizeOf32 rfl rfl rfl rfl rfl) ?_
 refine w_ (p_call Tryz.func80 rfl rfl rfl rfl (d_pred_norm (ha) (ca.mono (by omega) (by omega))) rfl) ?_
 refine a_storeOw 0 Tryz.sizeOf32 rfl rfl rfl rfl rfl rfl rfl ?_
 refine aw_nil ?_
 refine ac_seq (ac_reg ?_)
 refine w_ (p_fieldOw fa_32_0 rfl rfl) ?_
 refine w_ (p_loadOw 0 Tryz.isAgg27 Tryz.sizeOf27 rfl rfl rfl rfl rfl) ?_
 refine w_ (p_fieldOw fa_32_1 rfl rfl) ?_
 refine w_ (p_loadOw 0 Tryz.isAgg27 Tryz.sizeOf27 rfl rfl rfl rfl rfl) ?_
 refine w_ (p_fieldOw fa_32_2 rfl rfl) ?_
 refine w_ (p_loadOw 0 Tryz.isAgg30 Tryz.sizeOf30 rfl rfl rfl rfl rfl) ?_
 refine w_ (p_lit Tryz.runUnderlying27 Tryz.sizeOf30 Tryz.zeroValue30 rfl rfl rfl rfl rfl rfl rfl rfl rfl rfl) ?_
 refine w_ (p_lit Tryz.runUnderlying143 Tryz.sizeOf27 Tryz.zeroValue27 rfl rfl rfl rfl rfl rfl rfl rfl rfl rfl) ?_
 refine w_ (p_call Tryz.func84 rfl rfl rfl rfl (d_det_Row (ps := orow3 a) (show 3 ≤ 1000 by decide) (orow3_small ha ca)) rfl) ?_
 refine w_ (p_assign rfl rfl) ?_
 refine aw_nil ?_
 refine ac_ret ?_
 exact retB_1 Tryz.results83 (rv_tmp rfl rfl) (rfl)
set_option maxRecDepth 20000 in
theorem d_pred_Orient {a b c : Crv} (ha : Nml a) (hb : Nml b) (hc : Nml c) (ca : Cb a) (cb : Cb b) (cc : Cb c) : Does Tryz.prog 59 [.agg [pl a.x, pl a.y, sg a.d, mg a.d], .agg [pl b.x, pl b.y, sg b.d, mg b.d], .agg [pl c.x, pl c.y, sg c.d, mg c.d]] (.one (pl (porient a b c))) := by
 refine does_ (n := 25) Tryz.func59 rfl Tryz.ntmps59 rfl ?_
 refine ac_seq (ac_reg ?_)
 refine w_ (p_boxS rfl rfl rfl rfl) ?_
 refine w_ (p_boxS rfl rfl rfl rfl) ?_
 refine w_ (p_boxS rfl rfl rfl rfl) ?_
 refine w_ (p_assign rfl rfl) ?_
 refine aw_nil ?_
 refine ac_seq (ac_reg ?_)
 refine w_ (p_assign rfl rfl) ?_
 refine aw_nil ?_
 refine ac_seq ?_
 refine ac_draw mixed_ 15 [11, 12, 13, 14, 15, 16, 17, 18, 19, 20, 21, 10, 22, 23, 8] [[], [], [0, 1], [], [], [3, 4], [], [], [6, 7], [2, 5, 8], [9], [10], [11], [11], [12]] [.one (.fn 83 [] []), .agg [pl a.x, pl a.y, sg a.d, mg a.d], .one (pls ((orow3 a))), .one (.fn 83 [] []), .agg [pl b.x, pl b.y, sg b.d, mg b.d], .one (pls ((orow3 b))), .one (.fn 83 [] []), .agg [pl c.x, pl c.y, sg c.d, mg c.d], .one (pls ((orow3 c))), .one (.row [[pls ((orow3 a))], [pls ((orow3 b))], [pls ((orow3 c))]]), .tup [.one (pl (porient a b c)), .one (.int .i64 0)], .tup [.one (pl (porient a b c)), .one (.int .i64 0)], .one (pl (porient a b c)), .one (.int .i64 0), .one (pl (porient a b c))] rfl rfl rfl ⟨p_move rfl rfl, p_loadSh Tryz.isAgg32 Tryz.sizeOf32 rfl rfl rfl rfl, p_callFn rfl Tryz.func83 rfl rfl rfl rfl (d_pred_Orient1 ha ca) rfl, p_move rfl rfl, p_loadSh Tryz.isAgg32 Tryz.sizeOf32 rfl rfl rfl rfl, p_callFn rfl Tryz.func83 rfl rfl rfl rfl (d_pred_Orient1 hb cb) rfl, p_move rfl rfl, p_loadSh Tryz.isAgg32 Tryz.sizeOf32 rfl rfl rfl rfl, p_callFn rfl Tryz.func83 rfl rfl rfl rfl (d_pred_Orient1 hc cc) rfl, p_lit Tryz.runUnderlying170 Tryz.sizeOf143 Tryz.zeroValue143 rfl rfl rfl rfl rfl rfl rfl rfl rfl rfl, p_call Tryz.func85 rfl rfl rfl rfl (d_det_Det (n := 3) (cs := cols3) (M := [orow3 a, orow3 b, orow3 c]) rfl rfl (by decide) cols3_ok (orows3 ha hb hc ca cb cc) (by decide)) rfl, p_move rfl rfl, p_extract rfl rfl rfl, p_extract rfl rfl rfl, p_assign rfl rfl, trivial⟩ rfl ?_
 refine w_ (p_assign rfl rfl) ?_
 refine aw_nil ?_
 refine ac_seq (ac_reg ?_)
 refine w_ (p_move rfl rfl) ?_
 refine w_ (p_assign rfl rfl) ?_
 refine aw_nil ?_
 refine ac_ret ?_
 exact retB_1 Tryz.results59 (rv_tmp rfl rfl) (rfl)
set_option maxRecDepth 20000 in
theorem d_cert_Orient {a b c : Pt} {q : Rat} (ha : Nml a.c) (hb : Nml b.c) (hc : Nml c.c) (ca : Cb a.c) (cb : Cb b.c) (cc : Cb c.c) (hq : Qb q) : Does Tryz.prog 28 [.one (.int .i64 3), .agg [pl ([-q.num, (q.den : Int)]), sg q.num, mg q.num, sg ((q.den : Int)), mg ((q.den : Int)), sg q.num, mg q.num, sg ((q.den : Int)), mg ((q.den : Int))], .one (.row [[pl a.c.x, pl a.c.y, sg a.c.d, mg a.c.d, .int .i64 a.id], [pl b.c.x, pl b.c.y, sg b.c.d, mg b.c.d, .int .i64 b.id], [pl c.c.x, pl c.c.y, sg c.c.d, mg c.c.d, .int .i64 c.id]])] (.tup [.agg [.int .i64 ((((mkOrient q a b c))).kind), .int .i64 ((((mkOrient q a b c))).i0), .int .i64 ((((mkOrient q a b c))).i1), .int .i64 ((((mkOrient q a b c))).i2), .int .i64 ((((mkOrient q a b c))).i3), pl (((mkOrient q a b c)).p), .int .i64 (((mkOrient q a b c)).want)], .one (.int .i64 0)]) := by
 refine does_ (n := 139) Tryz.func28 rfl Tryz.ntmps28 rfl ?_
 refine ac_seq (ac_reg ?_)
 refine w_ (p_boxS rfl rfl rfl rfl) ?_
 refine a_alloc Tryz.zeroValue73 rfl rfl fun g1 => ?_
 refine w_ (p_assign rfl rfl) ?_
 refine aw_nil ?_
 refine ac_seq (ac_seq (ac_reg ?_))
 refine w_ (p_move rfl rfl) ?_
 refine w_ (p_len (m := 3) Tryz.runUnderlying25 rfl (rfl) rfl) ?_
 refine w_ (p_move rfl rfl) ?_
 refine w_ (p_call Tryz.func55 rfl rfl rfl rfl (d_cert_points3) rfl) ?_
 refine w_ (p_cmp (b := false) rfl rfl rfl rfl) ?_
 refine aw_nil ?_
 refine ac_f rfl (rfl) ?_
 refine ac_skip ?_
 refine ac_seq (ac_reg ?_)
 refine w_ (p_move rfl rfl) ?_
 refine w_ (p_build (bd_71) rfl rfl rfl rfl) ?_
 refine w_ (p_build (bd_73) rfl rfl rfl rfl) ?_
 refine a_alloc Tryz.zeroValue73 rfl rfl fun g2 => ?_
 refine a_storeOw 0 Tryz.sizeOf73 rfl rfl rfl rfl rfl rfl rfl ?_
 refine aw_nil ?_
 refine ac_seq (ac_seq (ac_reg ?_))
 refine w_ (p_move rfl rfl) ?_
 refine w_ (p_len (m := 3) Tryz.runUnderlying25 rfl (rfl) rfl) ?_
 refine w_ (p_move rfl rfl) ?_
 refine aw_nil ?_
 refine ac_block ?_
 refine ac_rounds 4 ?_
 refine ac_round ?_
 refine ac_seq (ac_reg ?_)
 refine w_ (p_cmp (b := true) rfl rfl rfl rfl) ?_
 refine aw_nil ?_
 refine ac_seq ?_
 refine ac_t rfl (rfl) ?_
 refine ac_skip ?_
 refine ac_seq (ac_block (ac_seq (ac_reg ?_)))
 refine w_ (p_move rfl rfl) ?_
 refine w_ (p_index (0) Tryz.runUnderlying25 Tryz.sizeOf35 rfl rfl rfl rfl rfl rfl) ?_
 refine w_ (p_loadSh Tryz.isAgg35 Tryz.sizeOf35 rfl rfl rfl rfl) ?_
 refine a_alloc Tryz.zeroValue35 rfl rfl fun g3 => ?_
 refine w_ (p_assign rfl rfl) ?_
 refine a_storeOw 0 Tryz.sizeOf35 rfl rfl rfl rfl rfl rfl rfl ?_
 refine aw_nil ?_
 refine ac_reg ?_
 refine w_ (p_move rfl rfl) ?_
 refine w_ (p_fieldOw fa_35_1 rfl rfl) ?_
 refine w_ (p_loadOw 0 Tryz.isAgg3 Tryz.sizeOf3 rfl rfl rfl rfl rfl) ?_
 refine w_ (p_fieldOw fa_73_0 rfl rfl) ?_
 refine w_ (p_fieldOw fa_71_1 rfl rfl) ?_
 refine w_ (p_indexArrOw 0 Tryz.runUnderlying69 Tryz.sizeOf3 rfl rfl rfl (by decide) rfl) ?_
 refine a_storeOw 1 Tryz.sizeOf3 rfl rfl rfl rfl rfl rfl rfl ?_
 refine aw_nil ?_
 refine ac_reg ?_
 refine w_ (p_add (r := ((1 : Nat) : Int)) rfl rfl (rfl) rfl) ?_
 refine w_ (p_move rfl rfl) ?_
 refine aw_nil ?_
 refine ac_round ?_
 refine ac_seq (ac_reg ?_)
 refine w_ (p_cmp (b := true) rfl rfl rfl rfl) ?_
 refine aw_nil ?_
 refine ac_seq ?_
 refine ac_t rfl (rfl) ?_
 refine ac_skip ?_
 refine ac_seq (ac_block (ac_seq (ac_reg ?_)))
 refine w_ (p_move rfl rfl) ?_
 refine w_ (p_index (1) Tryz.runUnderlying25 Tryz.sizeOf35 rfl rfl rfl rfl rfl rfl) ?_
 refine w_ (p_loadSh Tryz.isAgg35 Tryz.sizeOf35 rfl rfl rfl rfl) ?_
 refine a_alloc Tryz.zeroValue35 rfl rfl fun g4 => ?_
 refine w_ (p_assign rfl rfl) ?_
 refine a_storeOw 0 Tryz.sizeOf35 rfl rfl rfl rfl rfl rfl rfl ?_
 refine aw_nil ?_
 refine ac_reg ?_
 refine w_ (p_move rfl rfl) ?_
 refine w_ (p_fieldOw fa_35_1 rfl rfl) ?_
 refine w_ (p_loadOw 0 Tryz.isAgg3 Tryz.sizeOf3 rfl rfl rfl rfl rfl) ?_
 refine w_ (p_fieldOw fa_73_0 rfl rfl) ?_
 refine w_ (p_fieldOw fa_71_1 rfl rfl) ?_
 refine w_ (p_indexArrOw 1 Tryz.runUnderlying69 Tryz.sizeOf3 rfl rfl rfl (by decide) rfl) ?_
 refine a_storeOw 2 Tryz.sizeOf3 rfl rfl rfl rfl rfl rfl rfl ?_
 refine aw_nil ?_
 refine ac_reg ?_
 refine w_ (p_add (r := ((2 : Nat) : Int)) rfl rfl (rfl) rfl) ?_
 refine w_ (p_move rfl rfl) ?_
 refine aw_nil ?_
 refine ac_round ?_
 refine ac_seq (ac_reg ?_)
 refine w_ (p_cmp (b := true) rfl rfl rfl rfl) ?_
 refine aw_nil ?_
 refine ac_seq ?_
 refine ac_t rfl (rfl) ?_
 refine ac_skip ?_
 refine ac_seq (ac_block (ac_seq (ac_reg ?_)))
 refine w_ (p_move rfl rfl) ?_
 refine w_ (p_index (2) Tryz.runUnderlying25 Tryz.sizeOf35 rfl rfl rfl rfl rfl rfl) ?_
 refine w_ (p_loadSh Tryz.isAgg35 Tryz.sizeOf35 rfl rfl rfl rfl) ?_
 refine a_alloc Tryz.zeroValue35 rfl rfl fun g5 => ?_
 refine w_ (p_assign rfl rfl) ?_
 refine a_storeOw 0 Tryz.sizeOf35 rfl rfl rfl rfl rfl rfl rfl ?_
 refine aw_nil ?_
 refine ac_reg ?_
 refine w_ (p_move rfl rfl) ?_
 refine w_ (p_fieldOw fa_35_1 rfl rfl) ?_
 refine w_ (p_loadOw 0 Tryz.isAgg3 Tryz.sizeOf3 rfl rfl rfl rfl rfl) ?_
 refine w_ (p_fieldOw fa_73_0 rfl rfl) ?_
 refine w_ (p_fieldOw fa_71_1 rfl rfl) ?_
 refine w_ (p_indexArrOw 2 Tryz.runUnderlying69 Tryz.sizeOf3 rfl rfl rfl (by decide) rfl) ?_
 refine a_storeOw 3 Tryz.sizeOf3 rfl rfl rfl rfl rfl rfl rfl ?_
 refine aw_nil ?_
 refine ac_reg ?_
 refine w_ (p_add (r := ((3 : Nat) : Int)) rfl rfl (rfl) rfl) ?_
 refine w_ (p_move rfl rfl) ?_
 refine aw_nil ?_
 refine ac_round ?_
 refine ac_seq (ac_reg ?_)
 refine w_ (p_cmp (b := false) rfl rfl rfl rfl) ?_
 refine aw_nil ?_
 refine ac_seq ?_
 refine ac_f rfl (rfl) ?_
 refine ac_exit ?_
 repeat refine seqQ_exit ?_
 refine blkQ_here ?_
 refine ac_seq (ac_seq (ac_reg ?_))
 refine w_ (p_move rfl rfl) ?_
 refine aw_nil ?_
 refine ac_block (ac_seq (ac_reg ?_))
 refine w_ (p_cmp (b := false) rfl rfl rfl rfl) ?_
 refine w_ (p_assign rfl rfl) ?_
 refine aw_nil ?_
 refine ac_f rfl (rfl) ?_
 refine ac_seq (ac_reg ?_)
 refine w_ (p_cmp (b := false) rfl rfl rfl rfl) ?_
 refine w_ (p_assign rfl rfl) ?_
 refine aw_nil ?_
 refine ac_f rfl (rfl) ?_
 refine ac_seq (ac_reg ?_)
 refine w_ (p_cmp (b := true) rfl rfl rfl rfl) ?_
 refine w_ (p_assign rfl rfl) ?_
 refine aw_nil ?_
 refine ac_t rfl (rfl) ?_
 refine ac_draw mixed_ 12 [99, 100, 101, 102, 103, 104, 105, 106, 107, 108, 109, 110] [[], [0], [1], [2], [], [4], [5], [6], [], [8], [9], [10]] [.one (.row [[pl a.c.x, pl a.c.y, sg a.c.d, mg a.c.d, .int .i64 a.id], [pl b.c.x, pl b.c.y, sg b.c.d, mg b.c.d, .int .i64 b.id], [pl c.c.x, pl c.c.y, sg c.c.d, mg c.c.d, .int .i64 c.id]]), .one (.sh [pl a.c.x, pl a.c.y, sg a.c.d, mg a.c.d, .int .i64 a.id]), .one (.sh [pl a.c.x, pl a.c.y, sg a.c.d, mg a.c.d, .int .i64 a.id]), .agg [pl a.c.x, pl a.c.y, sg a.c.d, mg a.c.d], .one (.row [[pl a.c.x, pl a.c.y, sg a.c.d, mg a.c.d, .int .i64 a.id], [pl b.c.x, pl b.c.y, sg b.c.d, mg b.c.d, .int .i64 b.id], [pl c.c.x, pl c.c.y, sg c.c.d, mg c.c.d, .int .i64 c.id]]), .one (.sh [pl b.c.x, pl b.c.y, sg b.c.d, mg b.c.d, .int .i64 b.id]), .one (.sh [pl b.c.x, pl b.c.y, sg b.c.d, mg b.c.d, .int .i64 b.id]), .agg [pl b.c.x, pl b.c.y, sg b.c.d, mg b.c.d], .one (.row [[pl a.c.x, pl a.c.y, sg a.c.d, mg a.c.d, .int .i64 a.id], [pl b.c.x, pl b.c.y, sg b.c.d, mg b.c.d, .int .i64 b.id], [pl c.c.x, pl c.c.y, sg c.c.d, mg c.c.d, .int .i64 c.id]]), .one (.sh [pl c.c.x, pl c.c.y, sg c.c.d, mg c.c.d, .int .i64 c.id]), .one (.sh [pl c.c.x, pl c.c.y, sg c.c.d, mg c.c.d, .int .i64 c.id]), .agg [pl c.c.x, pl c.c.y, sg c.c.d, mg c.c.d]] rfl rfl rfl ⟨p_move rfl rfl, p_index (0) Tryz.runUnderlying25 Tryz.sizeOf35 rfl rfl rfl rfl rfl rfl, p_fieldSh fa_35_0 rfl rfl rfl, p_loadSh Tryz.isAgg32 Tryz.sizeOf32 rfl rfl rfl rfl, p_move rfl rfl, p_index (1) Tryz.runUnderlying25 Tryz.sizeOf35 rfl rfl rfl rfl rfl rfl, p_fieldSh fa_35_0 rfl rfl rfl, p_loadSh Tryz.isAgg32 Tryz.sizeOf32 rfl rfl rfl rfl, p_move rfl rfl, p_index (2) Tryz.runUnderlying25 Tryz.sizeOf35 rfl rfl rfl rfl rfl rfl, p_fieldSh fa_35_0 rfl rfl rfl, p_loadSh Tryz.isAgg32 Tryz.sizeOf32 rfl rfl rfl rfl, trivial⟩ rfl ?_
 refine w_ (p_call Tryz.func59 rfl rfl rfl rfl (d_pred_Orient (ha) (hb) (hc) (ca) (cb) (cc)) rfl) ?_
 refine w_ (p_fieldOw fa_73_1 rfl rfl) ?_
 refine a_storeOw 3 Tryz.sizeOf27 rfl rfl rfl rfl rfl rfl rfl ?_
 refine aw_nil ?_
 refine ac_seq (ac_reg ?_)
 refine w_ (p_fieldOw fa_73_1 rfl rfl) ?_
 refine w_ (p_loadOw 3 Tryz.isAgg27 Tryz.sizeOf27 rfl rfl rfl rfl rfl) ?_
 refine w_ (p_loadSh Tryz.isAgg44 Tryz.sizeOf44 rfl rfl rfl rfl) ?_
 refine w_ (p_call Tryz.func62 rfl rfl rfl rfl (d_germ_AtQ (pb_orient ha hb hc ca cb cc) (hq)) rfl) ?_
 refine w_ (p_fieldOw fa_73_2 rfl rfl) ?_
 refine a_storeOw 3 Tryz.sizeOf3 rfl rfl rfl rfl rfl rfl rfl ?_
 refine aw_nil ?_
 refine ac_seq (ac_reg ?_)
 refine w_ (p_loadOw 3 Tryz.isAgg73 Tryz.sizeOf73 rfl rfl rfl rfl rfl) ?_
 refine a_storeOw 4 Tryz.sizeOf73 rfl rfl rfl rfl rfl rfl rfl ?_
 refine w_ (p_assign rfl rfl) ?_
 refine aw_nil ?_
 refine ac_ret ?_
 exact retB_2 Tryz.results28 (rv_cell 4 Tryz.isAgg73 Tryz.sizeOf73 rfl rfl rfl rfl rfl) (rv_tmp rfl rfl) (by simp only [mkOrient])
end Orr

namespace Orr
open Go
def keyV (ks : List Int) : Value := .agg (ks.map (Value.int .i64)).toArray
def getM : List (List Int × LV) → List Int → Option LV
  | [], _ => none
  | e :: es, k => if k = e.1 then some e.2 else getM es k
def putM : List (List Int × LV) → List Int → LV → List (List Int × LV)
  | [], k, x => [(k, x)]
  | e :: es, k, x => if k = e.1 then (k, x) :: es else e :: putM es k x
theorem putM_len {n : Nat} : ∀ {es : List (List Int × LV)} {k : List Int} {x : LV}, (∀ e ∈ es, e.1.length = n) → k.length = n → ∀ e ∈ putM es k x, e.1.length = n
  | [], k, x, _, hk, e, he => by simp [putM] at he; subst he; exact hk
  | y :: es, k, x, h, hk, e, he => by
    simp only [putM] at he
    split at he
    · rcases List.mem_cons.1 he with rfl | he
      · exact hk
      · exact h e (List.mem_cons_of_mem _ he)
    · rcases List.mem_cons.1 he with rfl | he
      · exact h _ (List.mem_cons_self ..)
      · exact putM_len (fun z hz => h z (List.mem_cons_of_mem _ hz)) hk e he
def isLit : LV → Bool
  | .int _ _ => true
  | .bool _ => true
  | _ => false
theorem lrep_lit {w : World} {O : Nat → Prop} {x : LV} (h : isLit x = true) : LRep w O (litV x) x := by
  cases x <;> first | exact .int _ _ | exact .bool _ | cases h
theorem lit_of {w : World} {O : Nat → Prop} {x : LV} {v : Value} (h : isLit x = true) (hr : XRep w O v x) : v = litV x := by
  cases x <;> first | cases h | skip
  · have hr : LRep w O v (.int _ _) := hr; cases hr; rfl
  · have hr : LRep w O v (.bool _) := hr; cases hr; rfl
structure MapT (P : Program) (T KT ET : Nat) (d : LV) : Prop where
  u : ∀ w, (underlying T).run P w = .ok (.map KT ET) w
  k : ∃ ds, (∀ w, (underlying KT).run P w = .ok ds w) ∧ ∀ x y, Instr.sameNow ds x y = none
  c : ∀ (em : Bool) (ks : List Int), ks.length = 3 → ∀ w, (Instr.checkKey em 10000 KT (keyV ks)).run P w = .ok () w
  e : ∀ (x y : List Int), x.length = 3 → y.length = 3 → ∀ w, (Op.equal KT (keyV x) (keyV y)).run P w = .ok (decide (x = y)) w
  z : ∀ w, (zeroValue ET).run P w = .ok (litV d) w
  d : isLit d = true
section
variable {P : Program} {K Ob : Nat → Prop} {w0 w : World} {a : Act} {n : Nat} {L : List (Nat × Value)} {Fs : List Fact} {Bs : List Blk} {T KT ET : Nat} {d : LV}
theorem set_fst {i : Nat} {g : Nat} {T T' : Tag} {cs cs' : List Value} (hi : Bs[i]? = some (g, T, cs)) : (Bs.set i (g, T', cs')).map (·.1) = Bs.map (·.1) := by
  rw [List.map_set]
  apply List.ext_getElem?
  intro k
  rw [List.getElem?_set]
  split
  · rename_i e; subst e
    split
    · rw [List.getElem?_map, hi]; rfl
    · rename_i hx
      have := (List.getElem?_eq_some_iff.1 hi).1
      simp at hx; omega
  · rfl
theorem St.setMap {g i : Nat} {es es' : List MapEntry} {ck ck' : Nat} (h : St K Ob w0 w a n L Fs Bs) (hi : Bs[i]? = some (g, Tag.mp es ck, [])) :
    St K Ob w0 { w with heap := w.heap.setIfInBounds g (.map es'.toArray ck') } a n L Fs (Bs.set i (g, Tag.mp es' ck', [])) := by
  have hm := List.mem_of_getElem? hi
  obtain ⟨hg1, hg2, hg3⟩ := h.own g _ _ hm
  have hmap := set_fst (T' := Tag.mp es' ck') (cs' := []) hi
  have hold : ∀ b, b ≠ g → (w.heap.setIfInBounds g (.map es'.toArray ck'))[b]? = w.heap[b]? := fun b hb => by
    rw [Array.getElem?_setIfInBounds]
    rw [if_neg (fun e => hb e.symm)]
  refine { h with wsize := by show _ ≤ (w.heap.setIfInBounds _ _).size; simp only [Array.size_setIfInBounds]; exact h.wsize, grow := ?_, own := ?_, nodup := by rw [hmap]; exact h.nodup, facts := ?_, ownO := by rw [hmap]; exact h.ownO }
  · intro b hb
    exact (hold b (fun e => by subst e; exact hg1 hb)).trans (h.grow b hb)
  · intro g' T' cs' hm'
    show _ ∧ g' < (w.heap.setIfInBounds _ _).size ∧ (w.heap.setIfInBounds _ _)[g']? = _
    simp only [Array.size_setIfInBounds]
    obtain ⟨k, hk⟩ := List.mem_iff_getElem?.1 hm'
    rw [List.getElem?_set] at hk
    split at hk
    · split at hk
      · injection hk with hk
        injection hk with e1 e2; injection e2 with e2 e3
        subst e1; subst e2; subst e3
        refine ⟨hg1, hg2, ?_⟩
        rw [Array.getElem?_setIfInBounds, if_pos rfl, if_pos hg2]; rfl
      · cases hk
    · rename_i hik
      have hm2 := List.mem_of_getElem? hk
      obtain ⟨h1, h2, h3⟩ := h.own g' T' cs' hm2
      refine ⟨h1, h2, (hold g' fun e => ?_).trans h3⟩
      subst e
      have hk' : (Bs.map (·.1))[k]? = some g' := by rw [List.getElem?_map, hk]; rfl
      have hi' : (Bs.map (·.1))[i]? = some g' := by rw [List.getElem?_map, hi]; rfl
      exact hik ((List.getElem?_inj (by rw [List.length_map]; exact (List.getElem?_eq_some_iff.1 hi).1) h.nodup).1 (hi'.trans hk'.symm))
  · intro f hf
    refine f.keep ⟨by show _ ≤ (w.heap.setIfInBounds _ _).size; simp, fun b hb hno => hold b fun e => ?_, fun b hb ho => ?_⟩ (h.facts f hf)
    · subst e; exact hno (.inr (List.mem_map.2 ⟨_, hm, rfl⟩))
    · unfold owns at ho ⊢; rw [hmap] at ho; exact ho
def posM : List (List Int × LV) → List Int → Option Nat
  | [], _ => none
  | e :: es, k => if k = e.1 then some 0 else (posM es k).map (· + 1)
theorem run_findAsking (M : MapT P T KT ET d) {k : List Int} (hk : k.length = 3) : ∀ (ents : List MapEntry) (es : List (List Int × LV)) (i : Nat) (w : World), (∀ e ∈ es, e.1.length = 3) → ents.map (fun e => (e.key, e.val)) = entsOf es →
    (Instr.findAsking KT (keyV k) ents i).run P w = .ok ((posM es k).map fun j => (i + j, litV ((getM es k).getD d))) w
  | [], [], i, w, _, _ => rfl
  | [], _ :: _, i, w, _, h => by simp [entsOf] at h
  | _ :: _, [], i, w, _, h => by simp [entsOf] at h
  | x :: ents, e :: es, i, w, hl, h => by
    simp only [entsOf, List.map_cons, List.cons.injEq, Prod.mk.injEq] at h
    obtain ⟨⟨h1, h2⟩, h3⟩ := h
    have ih := run_findAsking M hk ents es (i + 1) w (fun z hz => hl z (List.mem_cons_of_mem _ hz)) h3
    have heq := M.e k e.1 hk (hl e (List.mem_cons_self ..)) w
    have hx : x.key = keyV e.1 := h1
    simp only [Instr.findAsking]
    rw [Sem.run_bind, hx, heq]
    simp only [Result.andThen_ok, posM, getM]
    by_cases hke : k = e.1
    · simp [hke, h2]
    · simp only [hke, decide_false, Bool.false_eq_true, if_false]
      rw [ih]
      cases posM es k with
      | none => rfl
      | some j => simp; omega
theorem run_findKey (M : MapT P T KT ET d) {k : List Int} (hk : k.length = 3) (ents : List MapEntry) (es : List (List Int × LV)) (w : World) (hl : ∀ e ∈ es, e.1.length = 3) (h : ents.map (fun e => (e.key, e.val)) = entsOf es) :
    (Instr.findKey KT (keyV k) ents).run P w = .ok ((posM es k).map fun j => (j, litV ((getM es k).getD d))) w := by
  obtain ⟨ds, hd, hs⟩ := M.k
  unfold Instr.findKey
  rw [Sem.run_bind, hd]
  simp only [Result.andThen_ok]
  cases ents with
  | nil =>
    cases es with
    | nil => rfl
    | cons e es => simp [entsOf] at h
  | cons x ents =>
    simp only [Instr.findNow, hs]
    have := run_findAsking M hk (x :: ents) es 0 w hl h
    rw [this]
    cases posM es k <;> simp
theorem posM_none : ∀ {es : List (List Int × LV)} {k : List Int}, posM es k = none → getM es k = none ∧ ∀ x, putM es k x = es ++ [(k, x)]
  | [], _, _ => ⟨rfl, fun _ => rfl⟩
  | e :: es, k, h => by
    simp only [posM] at h
    split at h
    · cases h
    · rename_i hk
      have ih := posM_none (es := es) (k := k) (by cases hp : posM es k with | none => rfl | some j => rw [hp] at h; cases h)
      refine ⟨by simp only [getM, if_neg hk]; exact ih.1, fun x => by simp only [putM, if_neg hk, ih.2 x, List.cons_append]⟩
theorem posM_some : ∀ {es : List (List Int × LV)} {k : List Int} {j : Nat}, posM es k = some j → ∃ x, es[j]? = some (k, x) ∧ getM es k = some x ∧ ∀ y, putM es k y = es.set j (k, y)
  | [], _, _, h => by cases h
  | e :: es, k, j, h => by
    simp only [posM] at h
    split at h
    · rename_i hk
      injection h with h; subst h
      exact ⟨e.2, by simp [hk], by simp [getM, hk], fun y => by simp [putM, hk]⟩
    · rename_i hk
      cases hp : posM es k with
      | none => rw [hp] at h; cases h
      | some i =>
        rw [hp] at h
        injection h with h; subst h
        obtain ⟨x, h1, h2, h3⟩ := posM_some hp
        exact ⟨x, by simpa using h1, by simp only [getM, if_neg hk]; exact h2, fun y => by simp only [putM, if_neg hk, h3 y, List.set_cons_succ]⟩
theorem run_lookup (M : MapT P T KT ET d) {k : List Int} (hk : k.length = 3) {g ck : Nat} {ents : List MapEntry} {es : List (List Int × LV)} (hl : ∀ e ∈ es, e.1.length = 3) (h : ents.map (fun e => (e.key, e.val)) = entsOf es) (hg : w.heap[g]? = some (.map ents.toArray ck)) :
    (Instr.lookup T (.map (some g)) (keyV k) false).run P w = .ok (litV ((getM es k).getD d)) w := by
  have hf := run_findKey M hk ents es w hl h
  have hc := fun em => M.c em k hk w
  unfold Instr.lookup
  simp only [Sem.run_bind, M.u, Result.andThen_ok, MapKept.run_getObj_map hg, Sem.run_pure, hc, hf]
  cases hp : posM es k with
  | none => simp [M.z, (posM_none hp).1]
  | some j => simp
theorem same_key {k : List Int} (hk : k.length = 3) : Instr.sameBits 10000 (keyV k) (keyV k) = true := by
  match k, hk with
  | [a, b, c], _ => simp [keyV, Instr.sameBits]
theorem run_update (M : MapT P T KT ET d) {k : List Int} (hk : k.length = 3) {g ck : Nat} {ents : List MapEntry} {es : List (List Int × LV)} (hl : ∀ e ∈ es, e.1.length = 3) (h : ents.map (fun e => (e.key, e.val)) = entsOf es) (hg : w.heap[g]? = some (.map ents.toArray ck)) (x : LV) :
    ∃ (ents' : List MapEntry) (ck' : Nat), (Instr.mapUpdate T (.map (some g)) (keyV k) (litV x)).run P w = .ok () { w with heap := w.heap.setIfInBounds g (.map ents'.toArray ck') } ∧ ents'.map (fun e => (e.key, e.val)) = entsOf (putM es k x) := by
  have hf := run_findKey M hk ents es w hl h
  have hc := fun em => M.c em k hk w
  have hlen : ents.length = es.length := by have := congrArg List.length h; simpa [entsOf] using this
  cases hp : posM es k with
  | none =>
    rw [hp] at hf
    refine ⟨ents ++ [{ key := keyV k, val := litV x, born := ck }], ck + 1, ?_, ?_⟩
    · unfold Instr.mapUpdate
      simp only [Sem.run_bind, M.u, Result.andThen_ok, MapKept.run_getObj_map hg, Sem.run_pure, hc, hf, Option.map_none]
      rw [MapKept.run_setObj_map _ hg]
      simp
    · rw [(posM_none hp).2 x, List.map_append, h]
      simp [entsOf, keyV]
  | some j =>
    rw [hp] at hf
    obtain ⟨y, h1, h2, h3⟩ := posM_some hp
    have hjl : j < ents.length := by rw [hlen]; exact (List.getElem?_eq_some_iff.1 h1).1
    have hkey : (ents[j]'hjl).key = keyV k := by
      have := congrArg (·[j]?) h
      simp only [entsOf, List.getElem?_map, h1, List.getElem?_eq_getElem hjl, Option.map_some, Option.some.injEq, Prod.mk.injEq] at this
      exact this.1
    refine ⟨ents.set j { ents[j]'hjl with key := keyV k, val := litV x }, ck, ?_, ?_⟩
    · unfold Instr.mapUpdate
      simp only [Sem.run_bind, M.u, Result.andThen_ok, MapKept.run_getObj_map hg, Sem.run_pure, hc, hf, Option.map_some]
      have hks : (Instr.keyThatStays (((ents.toArray[j]?).map (·.key)).getD (keyV k)) (keyV k)).run P w = .ok (keyV k) w := by
        rw [List.getElem?_toArray, List.getElem?_eq_getElem hjl]
        simp only [Option.map_some, Option.getD_some, hkey]
        unfold Instr.keyThatStays
        rw [if_pos (same_key hk)]; rfl
      rw [hks]
      simp only [Result.andThen_ok]
      rw [MapKept.run_setObj_map _ hg]
      have e : ents.toArray.modify j (fun e => { e with key := keyV k, val := litV x }) = (ents.set j { ents[j]'hjl with key := keyV k, val := litV x }).toArray := by
        apply Array.ext_getElem?
        intro i
        rw [Array.getElem?_modify]
        simp only [List.getElem?_toArray, List.getElem?_set]
        by_cases hij : j = i
        · subst hij
          simp [hjl]
        · simp [hij]
      rw [e]
    · rw [h3 x, List.map_set, h]
      unfold entsOf
      rw [List.map_set]
      rfl
end
variable {P : Program} {ops : Array Oper} {n d : Nat} {rest : List Oper} {N : Sg → List OB → Prop} {L : Sg} {B : List OB} {ty : TypeId} {pos : String} {after : Array Edge}
theorem rep_key {w : World} {O : Nat → Prop} : ∀ {ks : List Int} {vs : List Value}, XReps w O vs (ks.map (LV.int .i64)) → vs = ks.map (Value.int .i64)
  | [], [], _ => rfl
  | k :: ks, v :: vs, h => by
    have h1 : LRep w O v (.int .i64 k) := h.1
    cases h1
    rw [rep_key h.2]; rfl
  | [], _ :: _, h => h.elim
  | _ :: _, [], h => h.elim
theorem p_lookup (i : Nat) {T KT ET g : Nat} {x y : Operand} {es : List (List Int × LV)} {ks : List Int} {dv r : LV} {B' : List OB} (M : MapT P T KT ET dv) (hi : frontB B i = some (.mpb g es, B')) (hx : evA L x = some (.one (.omap g))) (hy : evA L y = some (.agg (ks.map (LV.int .i64)))) (hk : Nat.beq ks.length 3 = true) (hr : (getM es ks).getD dv = r) (hlit : isLit r = true) (hd : Nat.blt d n = true) :
    AP P ops n { dst := some d, op := .lookup T x y false, type := ty, pos := pos, after := after, guard := none } d (.one r) L B := by
  refine p_val hd fun K Ob w0 w a Bs L' Fs h hL hB => ?_
  have hk := Nat.eq_of_beq_eq_true hk
  obtain ⟨hxi, rfl⟩ := frontB_eq hi
  obtain ⟨Bo, Bs', hp, ⟨hl, ents, ck, rfl, he⟩, _⟩ := hB.front hxi
  obtain ⟨v, hv, hr1⟩ := ev_of hL hx
  obtain rfl : v = .map (some g) := hr1
  obtain ⟨v2, hv2, hr2⟩ := ev_of hL hy
  obtain ⟨vs, rfl, hvs⟩ : ∃ vs : List Value, v2 = .agg vs.toArray ∧ XReps w (owns Ob Bs) vs (ks.map (LV.int .i64)) := hr2
  have hkv := rep_key hvs
  subst hkv
  have hg := (h.own g (Tag.mp ents ck) [] (hp.mem_iff.2 (List.mem_append.2 (.inl (List.mem_singleton.2 rfl))))).2.2
  refine ⟨litV r, ?_, (lrep_lit hlit).x⟩
  have := run_lookup M hk hl he hg
  rw [hr] at this
  simp only [execOp, h.ev hv, h.ev hv2]
  rw [show (Value.agg (ks.map (Value.int .i64)).toArray) = keyV ks from rfl]
  simp [this]
theorem a_mapUpdate (i : Nat) {T KT ET g : Nat} {x y z : Operand} {es : List (List Int × LV)} {ks : List Int} {dv v : LV} {B' : List OB} (M : MapT P T KT ET dv) (hi : frontB B i = some (.mpb g es, B')) (hx : evA L x = some (.one (.omap g))) (hy : evA L y = some (.agg (ks.map (LV.int .i64)))) (hz : evA L z = some (.one v)) (hlit : isLit v = true) (hk : Nat.beq ks.length 3 = true)
    (k : AW P ops n rest N L (.mpb g (putM es ks v) :: B')) :
    AW P ops n ({ dst := none, op := .mapUpdate T x y z, type := ty, pos := pos, after := after, guard := none } :: rest) N L B := by
  intro K Ob w0 w a Q hs0 hQ
  have hk := Nat.eq_of_beq_eq_true hk
  obtain ⟨L', Bo, Bs, h, hL, ⟨hl, ents, ck, rfl, he⟩, hB⟩ := hs0.front hi
  obtain ⟨v1, hv1, hr1⟩ := ev_of hL hx
  obtain rfl : v1 = .map (some g) := hr1
  obtain ⟨v2, hv2, hr2⟩ := ev_of hL hy
  obtain ⟨vs, rfl, hvs⟩ : ∃ vs : List Value, v2 = .agg vs.toArray ∧ XReps w (owns Ob _) vs (ks.map (LV.int .i64)) := hr2
  have hkv := rep_key hvs
  subst hkv
  obtain ⟨v3, hv3, hr3⟩ := ev_of hL hz
  have hv3e := lit_of hlit hr3
  subst hv3e
  have hg := (h.own g (Tag.mp ents ck) [] (List.mem_cons_self ..)).2.2
  obtain ⟨ents', ck', hrun, he'⟩ := run_update M hk hl he hg v
  have h2 := h.add (f := ⟨fun w O => (∀ t x, lk L t = some x → ∃ v, look L' t = some v ∧ ARep w O v x) ∧ BsRep w O B' Bs, fun hle h => ⟨keep_of hle h.1, h.2.keep hle⟩⟩) ⟨hL, hB⟩
  have h3 := h2.setMap (i := 0) (es' := ents') (ck' := ck') rfl
  refine step_skip (w' := { w with heap := w.heap.setIfInBounds g (.map ents'.toArray ck') }) rfl rfl ?_ ?_
  · simp only [execOp, h.ev hv1, h.ev hv2, h.ev hv3]
    rw [show (Value.agg (ks.map (Value.int .i64)).toArray) = keyV ks from rfl]
    simp [hrun]
  · obtain ⟨h4, h5⟩ := h3.fact 0 rfl
    exact k _ _ _ _ _ _ ⟨L', _, h3.noFacts, h4, ⟨[_], Bs, rfl, ⟨putM_len hl hk, ents', ck', rfl, he'⟩, h5⟩⟩ hQ
theorem a_makeMap {T : Nat} (hd : Nat.blt d n = true) (k : ∀ g, AW P ops n rest N ((d, .one (.omap g)) :: L) (.mpb g [] :: B)) :
    AW P ops n ({ dst := some d, op := .makeMap T none, type := ty, pos := pos, after := after, guard := none } :: rest) N L B := by
  rintro K Ob w0 w a Q ⟨L', Bs, h, hL, hB⟩ hQ
  have h2 := h.add (f := ⟨fun w O => (∀ t x, lk L t = some x → ∃ v, look L' t = some v ∧ ARep w O v x) ∧ BsRep w O B Bs, fun hle h => ⟨keep_of hle h.1, h.2.keep hle⟩⟩) ⟨hL, hB⟩
  have h3 := (h2.allocT (Tag.mp [] 0) []).put (.map (some w.heap.size)) hd
  obtain ⟨h4, h5⟩ := h3.fact 0 rfl
  refine step_value (w' := w.alloc (objOf (Tag.mp [] 0) [])) (v := .map (some w.heap.size)) rfl (by simp [execOp, Instr.makeMap, run_newObj, objOf]) ?_
  exact k w.heap.size _ _ _ _ _ _ ⟨_, _, h3.noFacts, put_of h4 rfl, ⟨[_], Bs, rfl, ⟨by simp, [], 0, rfl, rfl⟩, h5⟩⟩ hQ
end Orr

namespace Orr
def orow4 (a : Crv) : List (List Int) := [pscale a.x a.d, pscale a.y a.d, padd (pmul a.x a.x) (pmul a.y a.y), [a.d * a.d]]
def pcircle (a b c d : Crv) : List Int := det 4 [orow4 a, orow4 b, orow4 c, orow4 d]
abbrev cols4 : List (Nat × Nat) := [(16, 2097152), (16, 2097152), (31, 2097158), (1, 2097152)]
theorem cols4_ok : ColsOk cols4 := by
  intro c hc
  simp only [List.mem_cons, List.not_mem_nil, or_false] at hc
  rcases hc with rfl | rfl | rfl | rfl <;> decide
theorem sq_b {p : List Int} (h : p.length ≤ 16) (hb : Bd 1048576 p) : (pmul p p).length ≤ 31 ∧ Bd 2097157 (pmul p p) := by
  have := len_pmul p p
  exact ⟨by omega, bd_mono (bd_pmul (u := 5) hb hb (by omega)) (by omega)⟩
theorem orow4_b {a : Crv} (h : Nml a) (c : Cb a) : RowB cols4 (orow4 a) := by
  have h1 := len_pscale a.x a.d
  have h2 := len_pscale a.y a.d
  have s1 := sq_b c.lx c.x
  have s2 := sq_b c.ly c.y
  have h3 := len_padd (pmul a.x a.x) (pmul a.y a.y)
  have := c.lx; have := c.ly
  refine ⟨⟨each_trim _ _, by omega, bd_mono (bd_pscale c.x c.d) (by omega)⟩, ⟨each_trim _ _, by omega, bd_mono (bd_pscale c.y c.d) (by omega)⟩, ⟨each_trim _ _, by omega, bd_mono (bd_padd s1.2 s2.2) (by omega)⟩, ⟨trim_one ?_, Nat.le_refl _, ?_⟩, trivial⟩
  · have := h.2.2.1
    intro e
    rcases Int.mul_eq_zero.1 e with e | e <;> omega
  · intro z hz
    rw [List.mem_singleton.1 hz]
    have := isz_mul a.d a.d; have := c.d; omega
theorem orows4 {a b c d : Crv} (ha : Nml a) (hb : Nml b) (hc : Nml c) (hd : Nml d) (ca : Cb a) (cb : Cb b) (cc : Cb c) (cd : Cb d) : ∀ r ∈ [orow4 a, orow4 b, orow4 c, orow4 d], RowB cols4 r := by
  intro r hr
  simp only [List.mem_cons, List.not_mem_nil, or_false] at hr
  rcases hr with rfl | rfl | rfl | rfl
  · exact orow4_b ha ca
  · exact orow4_b hb cb
  · exact orow4_b hc cc
  · exact orow4_b hd cd
theorem pb_circle {a b c d : Crv} (ha : Nml a) (hb : Nml b) (hc : Nml c) (hd : Nml d) (ca : Cb a) (cb : Cb b) (cc : Cb c) (cd : Cb d) : Pb (pcircle a b c d) := by
  obtain ⟨h1, h2, h3⟩ := det_b 4 cols4 [orow4 a, orow4 b, orow4 c, orow4 d] rfl rfl (by decide) cols4_ok (orows4 ha hb hc hd ca cb cc cd)
  have h2 : (pcircle a b c d).length + 4 ≤ 64 + 1 := h2
  exact ⟨h1, by omega, bd_mono h3 (by decide)⟩
def mkCircle (q : Rat) (a b c d : Pt) : Ct := ⟨4, a.id, b.id, c.id, d.id, pcircle a.c b.c c.c d.c, germAt (pcircle a.c b.c c.c d.c) q⟩
abbrev P3 := Pt × (Pt × Pt)
abbrev P4 := Pt × P3
def triK : Nat → List Pt → List P3
  | 0, _ => []
  | _ + 1, [] => []
  | k + 1, x :: l => (pairsOf l).map (fun m => (x, m)) ++ triK k l
def triples (l : List Pt) : List P3 := triK l.length l
def quaK : Nat → List Pt → List P4
  | 0, _ => []
  | _ + 1, [] => []
  | k + 1, x :: l => (triples l).map (fun m => (x, m)) ++ quaK k l
def quads (l : List Pt) : List P4 := quaK l.length l
theorem triK_next : ∀ (l : List Pt) (i : Nat) (x : Pt), l[i]? = some x → triK (i + 1) l = triK i l ++ (pairsOf (l.drop (i + 1))).map (fun m => (x, m))
  | [], i, x, h => by simp at h
  | y :: l, 0, x, h => by simp at h; subst h; simp [triK]
  | y :: l, i + 1, x, h => by
    have ih := triK_next l i x (by simpa using h)
    show (pairsOf l).map _ ++ triK (i + 1) l = ((pairsOf l).map _ ++ triK i l) ++ _
    rw [ih, List.append_assoc]; rfl
theorem quaK_next : ∀ (l : List Pt) (i : Nat) (x : Pt), l[i]? = some x → quaK (i + 1) l = quaK i l ++ (triples (l.drop (i + 1))).map (fun m => (x, m))
  | [], i, x, h => by simp at h
  | y :: l, 0, x, h => by simp at h; subst h; simp [quaK]
  | y :: l, i + 1, x, h => by
    have ih := quaK_next l i x (by simpa using h)
    show (triples l).map _ ++ quaK (i + 1) l = ((triples l).map _ ++ quaK i l) ++ _
    rw [ih, List.append_assoc]; rfl
theorem triK_len : ∀ (k : Nat) (l : List Pt), k ≤ l.length → (triK k l).length ≤ k * (l.length * l.length)
  | 0, l, _ => by simp [triK]
  | k + 1, [], h => by simp at h
  | k + 1, x :: l, h => by
    have h1 := triK_len k l (by simpa using h)
    have h2 : (pairsOf l).length ≤ l.length * l.length := pairsK_len _ _
    simp only [triK, List.length_append, List.length_map, List.length_cons]
    have e : (l.length + 1) * (l.length + 1) = l.length * l.length + l.length + l.length + 1 := by rw [Nat.add_mul, Nat.mul_add]; omega
    have h3 : k * (l.length * l.length) ≤ k * ((l.length + 1) * (l.length + 1)) := Nat.mul_le_mul_left _ (by omega)
    rw [Nat.succ_mul]
    omega
theorem quaK_len : ∀ (k : Nat) (l : List Pt), k ≤ l.length → (quaK k l).length ≤ k * (l.length * (l.length * l.length))
  | 0, l, _ => by simp [quaK]
  | k + 1, [], h => by simp at h
  | k + 1, x :: l, h => by
    have h1 := quaK_len k l (by simpa using h)
    have h2 : (triples l).length ≤ l.length * (l.length * l.length) := triK_len _ _ (Nat.le_refl _)
    simp only [quaK, List.length_append, List.length_map, List.length_cons]
    have e : (l.length + 1) * ((l.length + 1) * (l.length + 1)) ≥ l.length * (l.length * l.length) := Nat.mul_le_mul (by omega) (Nat.mul_le_mul (by omega) (by omega))
    have h3 : k * (l.length * (l.length * l.length)) ≤ k * ((l.length + 1) * ((l.length + 1) * (l.length + 1))) := Nat.mul_le_mul_left _ e
    rw [Nat.succ_mul]
    omega
theorem triK_mem : ∀ (k : Nat) (l : List Pt), ∀ m ∈ triK k l, m.1 ∈ l ∧ m.2.1 ∈ l ∧ m.2.2 ∈ l
  | 0, l, m, h => by simp [triK] at h
  | k + 1, [], m, h => by simp [triK] at h
  | k + 1, x :: l, m, h => by
    rcases List.mem_append.1 h with h | h
    · obtain ⟨y, hy, rfl⟩ := List.mem_map.1 h
      obtain ⟨h1, h2⟩ := pairsK_mem _ _ y hy
      exact ⟨List.mem_cons_self .., List.mem_cons_of_mem _ h1, List.mem_cons_of_mem _ h2⟩
    · obtain ⟨h1, h2, h3⟩ := triK_mem k l m h
      exact ⟨List.mem_cons_of_mem _ h1, List.mem_cons_of_mem _ h2, List.mem_cons_of_mem _ h3⟩
theorem quaK_mem : ∀ (k : Nat) (l : List Pt), ∀ m ∈ quaK k l, m.1 ∈ l ∧ m.2.1 ∈ l ∧ m.2.2.1 ∈ l ∧ m.2.2.2 ∈ l
  | 0, l, m, h => by simp [quaK] at h
  | k + 1, [], m, h => by simp [quaK] at h
  | k + 1, x :: l, m, h => by
    rcases List.mem_append.1 h with h | h
    · obtain ⟨y, hy, rfl⟩ := List.mem_map.1 h
      obtain ⟨h1, h2, h3⟩ := triK_mem _ _ y hy
      exact ⟨List.mem_cons_self .., List.mem_cons_of_mem _ h1, List.mem_cons_of_mem _ h2, List.mem_cons_of_mem _ h3⟩
    · obtain ⟨h1, h2, h3, h4⟩ := quaK_mem k l m h
      exact ⟨List.mem_cons_of_mem _ h1, List.mem_cons_of_mem _ h2, List.mem_cons_of_mem _ h3, List.mem_cons_of_mem _ h4⟩
abbrev Ents := List (List Int × LV)
def oriC (q : Rat) (m : P3) : Ct := mkOrient q m.1 m.2.1 m.2.2
def cirC (q : Rat) (m : P4) : Ct := mkCircle q m.1 m.2.1 m.2.2.1 m.2.2.2
def key3 (m : P3) : List Int := [m.1.id, m.2.1.id, m.2.2.id]
def turnM (q : Rat) (ps : List P3) : Ents := ps.foldl (fun M m => putM M (key3 m) (.int .i64 (oriC q m).want)) []
theorem turnM_snoc (q : Rat) (ps : List P3) (m : P3) : turnM q (ps ++ [m]) = putM (turnM q ps) (key3 m) (.int .i64 (oriC q m).want) := by simp [turnM]
def intM (M : Ents) (k : List Int) : Int := match getM M k with
  | some (.int _ n) => n
  | _ => 0
def boolM (M : Ents) (k : List Int) : Bool := match getM M k with
  | some (.bool b) => b
  | _ => false
def fillS (T : Ents) (s : Int) (n : List Int) (F : Ents) (skip : Nat) : Ents := if intM T (n.eraseIdx skip) * (if (3 - skip) % 2 = 1 then -s else s) > 0 then putM F (n.eraseIdx skip) (.bool true) else F
def fillM (T : Ents) (s : Int) (n : List Int) (F : Ents) : Ents := fillS T s n (fillS T s n (fillS T s n (fillS T s n F 0) 1) 2) 3
def key4 (m : P4) : List Int := [m.1.id, m.2.1.id, m.2.2.1.id, m.2.2.2.id]
def fullM (q : Rat) (T : Ents) (ps : List P4) : Ents := ps.foldl (fun F m => fillM T (cirC q m).want (key4 m) F) []
theorem fullM_snoc (q : Rat) (T : Ents) (ps : List P4) (m : P4) : fullM q T (ps ++ [m]) = fillM T (cirC q m).want (key4 m) (fullM q T ps) := by simp [fullM]
def isT (T F : Ents) (m : P3) : Bool := decide (intM T (key3 m) ≠ 0) && !(boolM F (key3 m))
def meshC (q : Rat) (l : List Pt) : List Ct := (triples (ways l)).map (oriC q) ++ (quads (ways l)).map (cirC q)
def meshT (q : Rat) (l : List Pt) : List P3 := (triples (ways l)).filter (isT (turnM q (triples (ways l))) (fullM q (turnM q (triples (ways l))) (quads (ways l))))
abbrev trL (m : P3) : List LV := [.int .i64 m.1.id, .int .i64 m.2.1.id, .int .i64 m.2.2.id]
def tris (l : List P3) : LV := .row (l.map trL)
theorem rlen_tris (l : List P3) : rlen (tris l) = some l.length := by simp [rlen, tris]
theorem meshT_len (q : Rat) (l : List Pt) (h : l.length ≤ 10) : (meshT q l).length ≤ 1000 := by
  have hw := ways_len l
  have h1 := List.length_filter_le (isT (turnM q (triples (ways l))) (fullM q (turnM q (triples (ways l))) (quads (ways l)))) (triples (ways l))
  have h2 : (triples (ways l)).length ≤ (ways l).length * ((ways l).length * (ways l).length) := triK_len _ _ (Nat.le_refl _)
  have h3 : (ways l).length * ((ways l).length * (ways l).length) ≤ 10 * (10 * 10) := Nat.mul_le_mul (by omega) (Nat.mul_le_mul (by omega) (by omega))
  unfold meshT
  omega
theorem meshC_le (q : Rat) (l : List Pt) (h : l.length ≤ 10) : (meshC q l).length ≤ 100000 := by
  have hw := ways_len l
  have h2 : (triples (ways l)).length ≤ (ways l).length * ((ways l).length * (ways l).length) := triK_len _ _ (Nat.le_refl _)
  have h3 : (ways l).length * ((ways l).length * (ways l).length) ≤ 10 * (10 * 10) := Nat.mul_le_mul (by omega) (Nat.mul_le_mul (by omega) (by omega))
  have h4 : (quads (ways l)).length ≤ (ways l).length * ((ways l).length * ((ways l).length * (ways l).length)) := quaK_len _ _ (Nat.le_refl _)
  have h5 : (ways l).length * ((ways l).length * ((ways l).length * (ways l).length)) ≤ 10 * (10 * (10 * 10)) := Nat.mul_le_mul (by omega) (Nat.mul_le_mul (by omega) (Nat.mul_le_mul (by omega) (by omega)))
  unfold meshC
  rw [List.length_append, List.length_map, List.length_map]
  omega
theorem meshC_pb (q : Rat) {l : List Pt} (hl : ∀ a ∈ l, Nml a.c ∧ Cb a.c) : ∀ c ∈ meshC q l, Pb c.p := by
  intro c h
  unfold meshC at h
  rcases List.mem_append.1 h with h | h
  · obtain ⟨m, hm, rfl⟩ := List.mem_map.1 h
    obtain ⟨h1, h2, h3⟩ := triK_mem _ _ m hm
    have h1 := hl _ (ways_mem h1); have h2 := hl _ (ways_mem h2); have h3 := hl _ (ways_mem h3)
    unfold oriC
    rw [mkOrient]
    exact pb_orient h1.1 h2.1 h3.1 h1.2 h2.2 h3.2
  · obtain ⟨m, hm, rfl⟩ := List.mem_map.1 h
    obtain ⟨h1, h2, h3, h4⟩ := quaK_mem _ _ m hm
    have h1 := hl _ (ways_mem h1); have h2 := hl _ (ways_mem h2); have h3 := hl _ (ways_mem h3); have h4 := hl _ (ways_mem h4)
    unfold cirC
    rw [mkCircle]
    exact pb_circle h1.1 h2.1 h3.1 h4.1 h1.2 h2.2 h3.2 h4.2
def IntM (M : Ents) : Prop := ∀ k, (getM M k).getD (.int .i64 0) = .int .i64 (intM M k) ∧ -1 ≤ intM M k ∧ intM M k ≤ 1
def BoolM (M : Ents) : Prop := ∀ k, (getM M k).getD (.bool false) = .bool (boolM M k)
theorem getM_putM (M : Ents) (k : List Int) (x : LV) (k' : List Int) : getM (putM M k x) k' = if k' = k then some x else getM M k' := by
  induction M with
  | nil => simp [putM, getM]
  | cons e M ih =>
    simp only [putM]
    by_cases h : k = e.1
    · rw [if_pos h]
      simp only [getM]
      by_cases h2 : k' = k
      · rw [if_pos h2, if_pos h2]
      · rw [if_neg h2, if_neg h2, if_neg (fun e2 => h2 (e2.trans h.symm))]
    · rw [if_neg h]
      simp only [getM]
      by_cases h2 : k' = e.1
      · rw [if_pos h2, if_pos h2, if_neg (fun e2 => h (e2.symm.trans h2))]
      · rw [if_neg h2, if_neg h2, ih]
theorem intM_nil : IntM [] := fun _ => ⟨rfl, show (-1 : Int) ≤ 0 by decide, show (0 : Int) ≤ 1 by decide⟩
theorem boolM_nil : BoolM [] := fun _ => rfl
theorem intM_put {M : Ents} (h : IntM M) {k : List Int} {n : Int} (hn : -1 ≤ n ∧ n ≤ 1) : IntM (putM M k (.int .i64 n)) := by
  intro k'
  have h1 := h k'
  unfold intM at h1 ⊢
  rw [getM_putM]
  by_cases e : k' = k
  · rw [if_pos e]; exact ⟨rfl, hn.1, hn.2⟩
  · rw [if_neg e]; exact h1
theorem boolM_put {M : Ents} (h : BoolM M) {k : List Int} {b : Bool} : BoolM (putM M k (.bool b)) := by
  intro k'
  have h1 := h k'
  unfold boolM at h1 ⊢
  rw [getM_putM]
  by_cases e : k' = k
  · rw [if_pos e]; rfl
  · rw [if_neg e]; exact h1
theorem boolM_fillS {T F : Ents} {s : Int} {n : List Int} {k : Nat} (h : BoolM F) : BoolM (fillS T s n F k) := by
  unfold fillS
  generalize (if (3 - k) % 2 = 1 then -s else s) = s'
  split
  · exact boolM_put h
  · exact h
theorem boolM_fill {T F : Ents} {s : Int} {n : List Int} (h : BoolM F) : BoolM (fillM T s n F) := boolM_fillS (boolM_fillS (boolM_fillS (boolM_fillS h)))
theorem cmpZ_bd (x y : Int) : -1 ≤ cmpZ x y ∧ cmpZ x y ≤ 1 := by
  unfold cmpZ
  split
  · omega
  · split <;> omega
theorem gfirst_bd (sgn : List Int → Int) (h : ∀ p, -1 ≤ sgn p ∧ sgn p ≤ 1) : ∀ (k : Nat) (p : List Int), -1 ≤ gfirst sgn k p ∧ gfirst sgn k p ≤ 1
  | 0, p => by simp [gfirst]
  | k + 1, p => by
    simp only [gfirst]
    split
    · omega
    · split
      · exact gfirst_bd sgn h k _
      · exact h p
theorem germAt_bd (p : List Int) (q : Rat) : -1 ≤ germAt p q ∧ germAt p q ≤ 1 := gfirst_bd _ (fun p => cmpZ_bd _ _) _ _
theorem mul_small {x s : Int} (hx : -1 ≤ x ∧ x ≤ 1) (hs : -1 ≤ s ∧ s ≤ 1) : -9223372036854775808 ≤ x * s ∧ x * s ≤ 9223372036854775807 := by
  have h : x = -1 ∨ x = 0 ∨ x = 1 := by omega
  rcases h with rfl | rfl | rfl <;> omega
theorem intM_turn (q : Rat) (ps : List P3) : IntM (turnM q ps) := by
  have key : ∀ (ps : List P3) (M : Ents), IntM M → IntM (ps.foldl (fun M m => putM M (key3 m) (.int .i64 (oriC q m).want)) M) := by
    intro ps
    induction ps with
    | nil => intro M h; exact h
    | cons m ps ih =>
      intro M h
      rw [List.foldl_cons]
      refine ih _ (intM_put h ?_)
      unfold oriC
      rw [mkOrient]
      exact germAt_bd _ _
  exact key ps [] intM_nil
theorem boolM_full (q : Rat) (T : Ents) (ps : List P4) : BoolM (fullM q T ps) := by
  have key : ∀ (ps : List P4) (F : Ents), BoolM F → BoolM (ps.foldl (fun F m => fillM T (cirC q m).want (key4 m) F) F) := by
    intro ps
    induction ps with
    | nil => intro M h; exact h
    | cons m ps ih => intro M h; rw [List.foldl_cons]; exact ih _ (boolM_fill h)
  exact key ps [] boolM_nil
abbrev edL (e : Int × Int) : List LV := [.int .i64 e.1, .int .i64 e.2]
def eds (l : List (Int × Int)) : LV := .row (l.map edL)
theorem rlen_eds (l : List (Int × Int)) : rlen (eds l) = some l.length := by simp [rlen, eds]
def lessE (a b : Int × Int) : Bool := decide (a.1 < b.1) || (decide (a.1 = b.1) && decide (a.2 < b.2))
def posE (e : Int × Int) : List (Int × Int) → Nat
  | [] => 0
  | x :: l => if lessE x e = true then posE e l + 1 else 0
theorem posE_le (e : Int × Int) : ∀ l, posE e l ≤ l.length
  | [] => Nat.le_refl _
  | x :: l => by
    have := posE_le e l
    simp only [posE, List.length_cons]
    split <;> omega
theorem posE_on {e x : Int × Int} {l : List (Int × Int)} {k : Nat} (hx : l[k]? = some x) (h : lessE x e = true) : posE e (l.drop k) = posE e (l.drop (k + 1)) + 1 := by
  obtain ⟨hk, hx⟩ := List.getElem?_eq_some_iff.1 hx
  rw [List.drop_eq_getElem_cons hk, hx]
  simp only [posE, h, if_true]
theorem posE_off {e x : Int × Int} {l : List (Int × Int)} {k : Nat} (hx : l[k]? = some x) (h : lessE x e = false) : posE e (l.drop k) = 0 := by
  obtain ⟨hk, hx⟩ := List.getElem?_eq_some_iff.1 hx
  rw [List.drop_eq_getElem_cons hk, hx]
  simp [posE, h]
theorem posE_end {e : Int × Int} {l : List (Int × Int)} {k : Nat} (h : ¬ k < l.length) : posE e (l.drop k) = 0 := by
  rw [List.drop_eq_nil_of_le (by omega)]; rfl
def insE (out : List (Int × Int)) (e : Int × Int) : List (Int × Int) := if out[posE e out]? = some e then out else out.take (posE e out) ++ e :: out.drop (posE e out)
theorem insE_len (out : List (Int × Int)) (e : Int × Int) : (insE out e).length ≤ out.length + 1 := by
  have := posE_le e out
  unfold insE
  split
  · omega
  · simp; omega
def edgesT (out : List (Int × Int)) (m : P3) : List (Int × Int) := insE (insE (insE out (m.1.id, m.2.1.id)) (m.1.id, m.2.2.id)) (m.2.1.id, m.2.2.id)
def edgesOf (ts : List P3) : List (Int × Int) := ts.foldl edgesT []
theorem edgesOf_take {ts : List P3} {i : Nat} {m : P3} (h : ts[i]? = some m) : edgesOf (ts.take (i + 1)) = edgesT (edgesOf (ts.take i)) m := by
  rw [List.take_succ, h]; simp [edgesOf, List.foldl_append]
end Orr

namespace Orr
open Go Go.Proofs
theorem orow4_small {a : Crv} (h : Nml a) (c : Cb a) : ∀ p ∈ orow4 a, SmallP p := by
 intro p hp
 obtain ⟨h1, k, h2, h3, h4⟩ := (orow4_b h c).get p hp
 have : k.1 ≤ 31 ∧ k.2 ≤ 2097158 := by
  simp only [List.mem_cons, List.not_mem_nil, or_false] at h2
  rcases h2 with rfl | rfl | rfl | rfl <;> decide
 exact ⟨h1, by omega, bd_mono h4 (by omega)⟩
set_option maxRecDepth 20000 in
theorem d_pred_InCircle1 {a : Crv} (ha : Nml a) (ca : Cb a) : Does Tryz.prog 86 [.agg [pl a.x, pl a.y, sg a.d, mg a.d]] (.one (pls ((orow4 a)))) := by
 refine does_ (n := 34) Tryz.func86 rfl Tryz.ntmps86 rfl ?_
 refine ac_seq (ac_reg ?_)
 refine a_box rfl rfl rfl fun g1 => ?_
 refine w_ (p_assign rfl rfl) ?_
 refine aw_nil ?_
 refine ac_seq (ac_reg ?_)
 refine w_ (p_loadOw 0 Tryz.isAgg32 Tryz.sizeOf32 rfl rfl rfl rfl rfl) ?_
 refine w_ (p_call Tryz.func80 rfl rfl rfl rfl (d_pred_norm (ha) (ca.mono (by omega) (by omega))) rfl) ?_
 refine a_storeOw 0 Tryz.sizeOf32 rfl rfl rfl rfl rfl rfl rfl ?_
 refine aw_nil ?_
 refine ac_seq ?_
 refine ac_draw mixed_ 25 [5, 6, 7, 8, 9, 10, 11, 12, 13, 14, 15, 16, 17, 18, 19, 20, 21, 22, 23, 24, 25, 26, 27, 28, 29] [[], [0], [], [2], [1, 3], [], [5], [], [7], [6, 8], [], [10], [], [12], [11, 13], [], [15], [], [17], [16, 18], [14, 19], [], [21], [], [23]] [.one (.ow g1 0), .one (pl a.x), .one (.ow g1 2), .agg [sg a.d, mg a.d], .one (pl (pscale a.x a.d)), .one (.ow g1 1), .one (pl a.y), .one (.ow g1 2), .agg [sg a.d, mg a.d], .one (pl (pscale a.y a.d)), .one (.ow g1 0), .one (pl a.x), .one (.ow g1 0), .one (pl a.x), .one (pl (pmul a.x a.x)), .one (.ow g1 1), .one (pl a.y), .one (.ow g1 1), .one (pl a.y), .one (pl (pmul a.y a.y)), .one (pl (padd (pmul a.x a.x) (pmul a.y a.y))), .one (.ow g1 2), .agg [sg a.d, mg a.d], .one (.ow g1 2), .agg [sg a.d, mg a.d]] rfl rfl rfl ⟨p_fieldOw fa_32_0 rfl rfl, p_loadOw 0 Tryz.isAgg27 Tryz.sizeOf27 rfl rfl rfl rfl rfl, p_fieldOw fa_32_2 rfl rfl, p_loadOw 0 Tryz.isAgg30 Tryz.sizeOf30 rfl rfl rfl rfl rfl, p_call Tryz.func82 rfl rfl rfl rfl (d_poly_Scale (Nat.lt_of_le_of_lt ca.lx (by decide)) (bd_mono ca.x (by omega)) (Nat.le_trans ca.d (by omega))) rfl, p_fieldOw fa_32_1 rfl rfl, p_loadOw 0 Tryz.isAgg27 Tryz.sizeOf27 rfl rfl rfl rfl rfl, p_fieldOw fa_32_2 rfl rfl, p_loadOw 0 Tryz.isAgg30 Tryz.sizeOf30 rfl rfl rfl rfl rfl, p_call Tryz.func82 rfl rfl rfl rfl (d_poly_Scale (Nat.lt_of_le_of_lt ca.ly (by decide)) (bd_mono ca.y (by omega)) (Nat.le_trans ca.d (by omega))) rfl, p_fieldOw fa_32_0 rfl rfl, p_loadOw 0 Tryz.isAgg27 Tryz.sizeOf27 rfl rfl rfl rfl rfl, p_fieldOw fa_32_0 rfl rfl, p_loadOw 0 Tryz.isAgg27 Tryz.sizeOf27 rfl rfl rfl rfl rfl, p_call Tryz.func88 rfl rfl rfl rfl (d_poly_Mul ha.1 ha.1 (Nat.lt_of_le_of_lt ca.lx (by decide)) (Nat.lt_of_le_of_lt ca.lx (by decide)) ca.x ca.x (by decide)) rfl, p_fieldOw fa_32_1 rfl rfl, p_loadOw 0 Tryz.isAgg27 Tryz.sizeOf27 rfl rfl rfl rfl rfl, p_fieldOw fa_32_1 rfl rfl, p_loadOw 0 Tryz.isAgg27 Tryz.sizeOf27 rfl rfl rfl rfl rfl, p_call Tryz.func88 rfl rfl rfl rfl (d_poly_Mul ha.2.1 ha.2.1 (Nat.lt_of_le_of_lt ca.ly (by decide)) (Nat.lt_of_le_of_lt ca.ly (by decide)) ca.y ca.y (by decide)) rfl, p_call Tryz.func87 rfl rfl rfl rfl (d_poly_Add (Nat.lt_of_le_of_lt (sq_b ca.lx ca.x).1 (by decide)) (Nat.lt_of_le_of_lt (sq_b ca.ly ca.y).1 (by decide)) (bd_mono (sq_b ca.lx ca.x).2 (by decide)) (bd_mono (sq_b ca.ly ca.y).2 (by decide))) rfl, p_fieldOw fa_32_2 rfl rfl, p_loadOw 0 Tryz.isAgg30 Tryz.sizeOf30 rfl rfl rfl rfl rfl, p_fieldOw fa_32_2 rfl rfl, p_loadOw 0 Tryz.isAgg30 Tryz.sizeOf30 rfl rfl rfl rfl rfl, trivial⟩ rfl ?_
 refine w_ (p_call Tryz.func89 rfl rfl rfl rfl (d_whole_Mul (isInt_n _) (isInt_n _) (Nat.le_trans ca.d (by omega)) (Nat.le_trans ca.d (by omega))) rfl) ?_
 refine w_ (p_lit Tryz.runUnderlying27 Tryz.sizeOf30 Tryz.zeroValue30 rfl rfl rfl rfl rfl rfl rfl rfl rfl rfl) ?_
 refine w_ (p_lit Tryz.runUnderlying143 Tryz.sizeOf27 Tryz.zeroValue27 rfl rfl rfl rfl rfl rfl rfl rfl rfl rfl) ?_
 refine w_ (p_call Tryz.func84 rfl rfl rfl rfl (d_det_Row (ps := orow4 a) (show 4 ≤ 1000 by decide) (orow4_small ha ca)) rfl) ?_
 refine w_ (p_assign rfl rfl) ?_
 refine aw_nil ?_
 refine ac_ret ?_
 exact retB_1 Tryz.results86 (rv_tmp rfl rfl) (rfl)
set_option maxRecDepth 20000 in
theorem d_pred_InCircle {a b c d : Crv} (ha : Nml a) (hb : Nml b) (hc : Nml c) (hd : Nml d) (ca : Cb a) (cb : Cb b) (cc : Cb c) (cd : Cb d) : Does Tryz.prog 60 [.agg [pl a.x, pl a.y, sg a.d, mg a.d], .agg [pl b.x, pl b.y, sg b.d, mg b.d], .agg [pl c.x, pl c.y, sg c.d, mg c.d], .agg [pl d.x, pl d.y, sg d.d, mg d.d]] (.one (pl (pcircle a b c d))) := by
 refine does_ (n := 30) Tryz.func60 rfl Tryz.ntmps60 rfl ?_
 refine ac_seq (ac_reg ?_)
 refine w_ (p_boxS rfl rfl rfl rfl) ?_
 refine w_ (p_boxS rfl rfl rfl rfl) ?_
 refine w_ (p_boxS rfl rfl rfl rfl) ?_
 refine w_ (p_boxS rfl rfl rfl rfl) ?_
 refine w_ (p_assign rfl rfl) ?_
 refine aw_nil ?_
 refine ac_seq (ac_reg ?_)
 refine w_ (p_assign rfl rfl) ?_
 refine aw_nil ?_
 refine ac_seq ?_
 refine ac_draw mixed_ 18 [13, 14, 15, 16, 17, 18, 19, 20, 21, 22, 23, 24, 25, 26, 12, 27, 28, 10] [[], [], [0, 1], [], [], [3, 4], [], [], [6, 7], [], [], [9, 10], [2, 5, 8, 11], [12], [13], [14], [14], [15]] [.one (.fn 86 [] []), .agg [pl a.x, pl a.y, sg a.d, mg a.d], .one (pls ((orow4 a))), .one (.fn 86 [] []), .agg [pl b.x, pl b.y, sg b.d, mg b.d], .one (pls ((orow4 b))), .one (.fn 86 [] []), .agg [pl c.x, pl c.y, sg c.d, mg c.d], .one (pls ((orow4 c))), .one (.fn 86 [] []), .agg [pl d.x, pl d.y, sg d.d, mg d.d], .one (pls ((orow4 d))), .one (.row [[pls ((orow4 a))], [pls ((orow4 b))], [pls ((orow4 c))], [pls ((orow4 d))]]), .tup [.one (pl (pcircle a b c d)), .one (.int .i64 0)], .tup [.one (pl (pcircle a b c d)), .one (.int .i64 0)], .one (pl (pcircle a b c d)), .one (.int .i64 0), .one (pl (pcircle a b c d))] rfl rfl rfl ⟨p_move rfl rfl, p_loadSh Tryz.isAgg32 Tryz.sizeOf32 rfl rfl rfl rfl, p_callFn rfl Tryz.func86 rfl rfl rfl rfl (d_pred_InCircle1 ha ca) rfl, p_move rfl rfl, p_loadSh Tryz.isAgg32 Tryz.sizeOf32 rfl rfl rfl rfl, p_callFn rfl Tryz.func86 rfl rfl rfl rfl (d_pred_InCircle1 hb cb) rfl, p_move rfl rfl, p_loadSh Tryz.isAgg32 Tryz.sizeOf32 rfl rfl rfl rfl, p_callFn rfl Tryz.func86 rfl rfl rfl rfl (d_pred_InCircle1 hc cc) rfl, p_move rfl rfl, p_loadSh Tryz.isAgg32 Tryz.sizeOf32 rfl rfl rfl rfl, p_callFn rfl Tryz.func86 rfl rfl rfl rfl (d_pred_InCircle1 hd cd) rfl, p_lit Tryz.runUnderlying170 Tryz.sizeOf143 Tryz.zeroValue143 rfl rfl rfl rfl rfl rfl rfl rfl rfl rfl, p_call Tryz.func85 rfl rfl rfl rfl (d_det_Det (n := 4) (cs := cols4) (M := [orow4 a, orow4 b, orow4 c, orow4 d]) rfl rfl (by decide) cols4_ok (orows4 ha hb hc hd ca cb cc cd) (by decide)) rfl, p_move rfl rfl, p_extract rfl rfl rfl, p_extract rfl rfl rfl, p_assign rfl rfl, trivial⟩ rfl ?_
 refine w_ (p_assign rfl rfl) ?_
 refine aw_nil ?_
 refine ac_seq (ac_reg ?_)
 refine w_ (p_move rfl rfl) ?_
 refine w_ (p_assign rfl rfl) ?_
 refine aw_nil ?_
 refine ac_ret ?_
 exact retB_1 Tryz.results60 (rv_tmp rfl rfl) (rfl)
set_option maxRecDepth 20000 in
theorem d_cert_Circle {a b c d : Pt} {q : Rat} (ha : Nml a.c) (hb : Nml b.c) (hc : Nml c.c) (hd : Nml d.c) (ca : Cb a.c) (cb : Cb b.c) (cc : Cb c.c) (cd : Cb d.c) (hq : Qb q) : Does Tryz.prog 28 [.one (.int .i64 4), .agg [pl ([-q.num, (q.den : Int)]), sg q.num, mg q.num, sg ((q.den : Int)), mg ((q.den : Int)), sg q.num, mg q.num, sg ((q.den : Int)), mg ((q.den : Int))], .one (.row [[pl a.c.x, pl a.c.y, sg a.c.d, mg a.c.d, .int .i64 a.id], [pl b.c.x, pl b.c.y, sg b.c.d, mg b.c.d, .int .i64 b.id], [pl c.c.x, pl c.c.y, sg c.c.d, mg c.c.d, .int .i64 c.id], [pl d.c.x, pl d.c.y, sg d.c.d, mg d.c.d, .int .i64 d.id]])] (.tup [.agg [.int .i64 ((((mkCircle q a b c d))).kind), .int .i64 ((((mkCircle q a b c d))).i0), .int .i64 ((((mkCircle q a b c d))).i1), .int .i64 ((((mkCircle q a b c d))).i2), .int .i64 ((((mkCircle q a b c d))).i3), pl (((mkCircle q a b c d)).p), .int .i64 (((mkCircle q a b c d)).want)], .one (.int .i64 0)]) := by
 refine does_ (n := 139) Tryz.func28 rfl Tryz.ntmps28 rfl ?_
 refine ac_seq (ac_reg ?_)
 refine w_ (p_boxS rfl rfl rfl rfl) ?_
 refine a_alloc Tryz.zeroValue73 rfl rfl fun g1 => ?_
 refine w_ (p_assign rfl rfl) ?_
 refine aw_nil ?_
 refine ac_seq (ac_seq (ac_reg ?_))
 refine w_ (p_move rfl rfl) ?_
 refine w_ (p_len (m := 4) Tryz.runUnderlying25 rfl (rfl) rfl) ?_
 refine w_ (p_move rfl rfl) ?_
 refine w_ (p_call Tryz.func55 rfl rfl rfl rfl (d_cert_points4) rfl) ?_
 refine w_ (p_cmp (b := false) rfl rfl rfl rfl) ?_
 refine aw_nil ?_
 refine ac_f rfl (rfl) ?_
 refine ac_skip ?_
 refine ac_seq (ac_reg ?_)
 refine w_ (p_move rfl rfl) ?_
 refine w_ (p_build (bd_71) rfl rfl rfl rfl) ?_
 refine w_ (p_build (bd_73) rfl rfl rfl rfl) ?_
 refine a_alloc Tryz.zeroValue73 rfl rfl fun g2 => ?_
 refine a_storeOw 0 Tryz.sizeOf73 rfl rfl rfl rfl rfl rfl rfl ?_
 refine aw_nil ?_
 refine ac_seq (ac_seq (ac_reg ?_))
 refine w_ (p_move rfl rfl) ?_
 refine w_ (p_len (m := 4) Tryz.runUnderlying25 rfl (rfl) rfl) ?_
 refine w_ (p_move rfl rfl) ?_
 refine aw_nil ?_
 refine ac_block ?_
 refine ac_rounds 5 ?_
 refine ac_round ?_
 refine ac_seq (ac_reg ?_)
 refine w_ (p_cmp (b := true) rfl rfl rfl rfl) ?_
 refine aw_nil ?_
 refine ac_seq ?_
 refine ac_t rfl (rfl) ?_
 refine ac_skip ?_
 refine ac_seq (ac_block (ac_seq (ac_reg ?_)))
 refine w_ (p_move rfl rfl) ?_
 refine w_ (p_index (0) Tryz.runUnderlying25 Tryz.sizeOf35 rfl rfl rfl rfl rfl rfl) ?_
 refine w_ (p_loadSh Tryz.isAgg35 Tryz.sizeOf35 rfl rfl rfl rfl) ?_
 refine a_alloc Tryz.zeroValue35 rfl rfl fun g3 => ?_
 refine w_ (p_assign rfl rfl) ?_
 refine a_storeOw 0 Tryz.sizeOf35 rfl rfl rfl rfl rfl rfl rfl ?_
 refine aw_nil ?_
 refine ac_reg ?_
 refine w_ (p_move rfl rfl) ?_
 refine w_ (p_fieldOw fa_35_1 rfl rfl) ?_
 refine w_ (p_loadOw 0 Tryz.isAgg3 Tryz.sizeOf3 rfl rfl rfl rfl rfl) ?_
 refine w_ (p_fieldOw fa_73_0 rfl rfl) ?_
 refine w_ (p_fieldOw fa_71_1 rfl rfl) ?_
 refine w_ (p_indexArrOw 0 Tryz.runUnderlying69 Tryz.sizeOf3 rfl rfl rfl (by decide) rfl) ?_
 refine a_storeOw 1 Tryz.sizeOf3 rfl rfl rfl rfl rfl rfl rfl ?_
 refine aw_nil ?_
 refine ac_reg ?_
 refine w_ (p_add (r := ((1 : Nat) : Int)) rfl rfl (rfl) rfl) ?_
 refine w_ (p_move rfl rfl) ?_
 refine aw_nil ?_
 refine ac_round ?_
 refine ac_seq (ac_reg ?_)
 refine w_ (p_cmp (b := true) rfl rfl rfl rfl) ?_
 refine aw_nil ?_
 refine ac_seq ?_
 refine ac_t rfl (rfl) ?_
 refine ac_skip ?_
 refine ac_seq (ac_block (ac_seq (ac_reg ?_)))
 refine w_ (p_move rfl rfl) ?_
 refine w_ (p_index (1) Tryz.runUnderlying25 Tryz.sizeOf35 rfl rfl rfl rfl rfl rfl) ?_
 refine w_ (p_loadSh Tryz.isAgg35 Tryz.sizeOf35 rfl rfl rfl rfl) ?_
 refine a_alloc Tryz.zeroValue35 rfl rfl fun g4 => ?_
 refine w_ (p_assign rfl rfl) ?_
 refine a_storeOw 0 Tryz.sizeOf35 rfl rfl rfl rfl rfl rfl rfl ?_
 refine aw_nil ?_
 refine ac_reg ?_
 refine w_ (p_move rfl rfl) ?_
 refine w_ (p_fieldOw fa_35_1 rfl rfl) ?_
 refine w_ (p_loadOw 0 Tryz.isAgg3 Tryz.sizeOf3 rfl rfl rfl rfl rfl) ?_
 refine w_ (p_fieldOw fa_73_0 rfl rfl) ?_
 refine w_ (p_fieldOw fa_71_1 rfl rfl) ?_
 refine w_ (p_indexArrOw 1 Tryz.runUnderlying69 Tryz.sizeOf3 rfl rfl rfl (by decide) rfl) ?_
 refine a_storeOw 2 Tryz.sizeOf3 rfl rfl rfl rfl rfl rfl rfl ?_
 refine aw_nil ?_
 refine ac_reg ?_
 refine w_ (p_add (r := ((2 : Nat) : Int)) rfl rfl (rfl) rfl) ?_
 refine w_ (p_move rfl rfl) ?_
 refine aw_nil ?_
 refine ac_round ?_
 refine ac_seq (ac_reg ?_)
 refine w_ (p_cmp (b := true) rfl rfl rfl rfl) ?_
 refine aw_nil ?_
 refine ac_seq ?_
 refine ac_t rfl (rfl) ?_
 refine ac_skip ?_
 refine ac_seq (ac_block (ac_seq (ac_reg ?_)))
 refine w_ (p_move rfl rfl) ?_
 refine w_ (p_index (2) Tryz.runUnderlying25 Tryz.sizeOf35 rfl rfl rfl rfl rfl rfl) ?_
 refine w_ (p_loadSh Tryz.isAgg35 Tryz.sizeOf35 rfl rfl rfl rfl) ?_
 refine a_alloc Tryz.zeroValue35 rfl rfl fun g5 => ?_
 refine w_ (p_assign rfl rfl) ?_
 refine a_storeOw 0 Tryz.sizeOf35 rfl rfl rfl rfl rfl rfl rfl ?_
 refine aw_nil ?_
 refine ac_reg ?_
 refine w_ (p_move rfl rfl) ?_
 refine w_ (p_fieldOw fa_35_1 rfl rfl) ?_
 refine w_ (p_loadOw 0 Tryz.isAgg3 Tryz.sizeOf3 rfl rfl rfl rfl rfl) ?_
 refine w_ (p_fieldOw fa_73_0 rfl rfl) ?_
 refine w_ (p_fieldOw fa_71_1 rfl rfl) ?_
 refine w_ (p_indexArrOw 2 Tryz.runUnderlying69 Tryz.sizeOf3 rfl rfl rfl (by decide) rfl) ?_
 refine a_storeOw 3 Tryz.sizeOf3 rfl rfl rfl rfl rfl rfl rfl ?_
 refine aw_nil ?_
 refine ac_reg ?_
 refine w_ (p_add (r := ((3 : Nat) : Int)) rfl rfl (rfl) rfl) ?_
 refine w_ (p_move rfl rfl) ?_
 refine aw_nil ?_
 refine ac_round ?_
 refine ac_seq (ac_reg ?_)
 refine w_ (p_cmp (b := true) rfl rfl rfl rfl) ?_
 refine aw_nil ?_
 refine ac_seq ?_
 refine ac_t rfl (rfl) ?_
 refine ac_skip ?_
 refine ac_seq (ac_block (ac_seq (ac_reg ?_)))
 refine w_ (p_move rfl rfl) ?_
 refine w_ (p_index (3) Tryz.runUnderlying25 Tryz.sizeOf35 rfl rfl rfl rfl rfl rfl) ?_
 refine w_ (p_loadSh Tryz.isAgg35 Tryz.sizeOf35 rfl rfl rfl rfl) ?_
 refine a_alloc Tryz.zeroValue35 rfl rfl fun g6 => ?_
 refine w_ (p_assign rfl rfl) ?_
 refine a_storeOw 0 Tryz.sizeOf35 rfl rfl rfl rfl rfl rfl rfl ?_
 refine aw_nil ?_
 refine ac_reg ?_
 refine w_ (p_move rfl rfl) ?_
 refine w_ (p_fieldOw fa_35_1 rfl rfl) ?_
 refine w_ (p_loadOw 0 Tryz.isAgg3 Tryz.sizeOf3 rfl rfl rfl rfl rfl) ?_
 refine w_ (p_fieldOw fa_73_0 rfl rfl) ?_
 refine w_ (p_fieldOw fa_71_1 rfl rfl) ?_
 refine w_ (p_indexArrOw 3 Tryz.runUnderlying69 Tryz.sizeOf3 rfl rfl rfl (by decide) rfl) ?_
 refine a_storeOw 4 Tryz.sizeOf3 rfl rfl rfl rfl rfl rfl rfl ?_
 refine aw_nil ?_
 refine ac_reg ?_
 refine w_ (p_add (r := ((4 : Nat) : Int)) rfl rfl (rfl) rfl) ?_
 refine w_ (p_move rfl rfl) ?_
 refine aw_nil ?_
 refine ac_round ?_
 refine ac_seq (ac_reg ?_)
 refine w_ (p_cmp (b := false) rfl rfl rfl rfl) ?_
 refine aw_nil ?_
 refine ac_seq ?_
 refine ac_f rfl (rfl) ?_
 refine ac_exit ?_
 repeat refine seqQ_exit ?_
 refine blkQ_here ?_
 refine ac_seq (ac_seq (ac_reg ?_))
 refine w_ (p_move rfl rfl) ?_
 refine aw_nil ?_
 refine ac_block (ac_seq (ac_reg ?_))
 refine w_ (p_cmp (b := false) rfl rfl rfl rfl) ?_
 refine w_ (p_assign rfl rfl) ?_
 refine aw_nil ?_
 refine ac_f rfl (rfl) ?_
 refine ac_seq (ac_reg ?_)
 refine w_ (p_cmp (b := false) rfl rfl rfl rfl) ?_
 refine w_ (p_assign rfl rfl) ?_
 refine aw_nil ?_
 refine ac_f rfl (rfl) ?_
 refine ac_seq (ac_reg ?_)
 refine w_ (p_cmp (b := false) rfl rfl rfl rfl) ?_
 refine w_ (p_assign rfl rfl) ?_
 refine aw_nil ?_
 refine ac_f rfl (rfl) ?_
 refine ac_seq (ac_reg ?_)
 refine w_ (p_cmp (b := true) rfl rfl rfl rfl) ?_
 refine w_ (p_assign rfl rfl) ?_
 refine aw_nil ?_
 refine ac_t rfl (rfl) ?_
 refine ac_draw mixed_ 16 [115, 116, 117, 118, 119, 120, 121, 122, 123, 124, 125, 126, 127, 128, 129, 130] [[], [0], [1], [2], [], [4], [5], [6], [], [8], [9], [10], [], [12], [13], [14]] [.one (.row [[pl a.c.x, pl a.c.y, sg a.c.d, mg a.c.d, .int .i64 a.id], [pl b.c.x, pl b.c.y, sg b.c.d, mg b.c.d, .int .i64 b.id], [pl c.c.x, pl c.c.y, sg c.c.d, mg c.c.d, .int .i64 c.id], [pl d.c.x, pl d.c.y, sg d.c.d, mg d.c.d, .int .i64 d.id]]), .one (.sh [pl a.c.x, pl a.c.y, sg a.c.d, mg a.c.d, .int .i64 a.id]), .one (.sh [pl a.c.x, pl a.c.y, sg a.c.d, mg a.c.d, .int .i64 a.id]), .agg [pl a.c.x, pl a.c.y, sg a.c.d, mg a.c.d], .one (.row [[pl a.c.x, pl a.c.y, sg a.c.d, mg a.c.d, .int .i64 a.id], [pl b.c.x, pl b.c.y, sg b.c.d, mg b.c.d, .int .i64 b.id], [pl c.c.x, pl c.c.y, sg c.c.d, mg c.c.d, .int .i64 c.id], [pl d.c.x, pl d.c.y, sg d.c.d, mg d.c.d, .int .i64 d.id]]), .one (.sh [pl b.c.x, pl b.c.y, sg b.c.d, mg b.c.d, .int .i64 b.id]), .one (.sh [pl b.c.x, pl b.c.y, sg b.c.d, mg b.c.d, .int .i64 b.id]), .agg [pl b.c.x, pl b.c.y, sg b.c.d, mg b.c.d], .one (.row [[pl a.c.x, pl a.c.y, sg a.c.d, mg a.c.d, .int .i64 a.id], [pl b.c.x, pl b.c.y, sg b.c.d, mg b.c.d, .int .i64 b.id], [pl c.c.x, pl c.c.y, sg c.c.d, mg c.c.d, .int .i64 c.id], [pl d.c.x, pl d.c.y, sg d.c.d, mg d.c.d, .int .i64 d.id]]), .one (.sh [pl c.c.x, pl c.c.y, sg c.c.d, mg c.c.d, .int .i64 c.id]), .one (.sh [pl c.c.x, pl c.c.y, sg c.c.d, mg c.c.d, .int .i64 c.id]), .agg [pl c.c.x, pl c.c.y, sg c.c.d, mg c.c.d], .one (.row [[pl a.c.x, pl a.c.y, sg a.c.d, mg a.c.d, .int .i64 a.id], [pl b.c.x, pl b.c.y, sg b.c.d, mg b.c.d, .int .i64 b.id], [pl c.c.x, pl c.c.y, sg c.c.d, mg c.c.d, .int .i64 c.id], [pl d.c.x, pl d.c.y, sg d.c.d, mg d.c.d, .int .i64 d.id]]), .one (.sh [pl d.c.x, pl d.c.y, sg d.c.d, mg d.c.d, .int .i64 d.id]), .one (.sh [pl d.c.x, pl d.c.y, sg d.c.d, mg d.c.d, .int .i64 d.id]), .agg [pl d.c.x, pl d.c.y, sg d.c.d, mg d.c.d]] rfl rfl rfl ⟨p_move rfl rfl, p_index (0) Tryz.runUnderlying25 Tryz.sizeOf35 rfl rfl rfl rfl rfl rfl, p_fieldSh fa_35_0 rfl rfl rfl, p_loadSh Tryz.isAgg32 Tryz.sizeOf32 rfl rfl rfl rfl, p_move rfl rfl, p_index (1) Tryz.runUnderlying25 Tryz.sizeOf35 rfl rfl rfl rfl rfl rfl, p_fieldSh fa_35_0 rfl rfl rfl, p_loadSh Tryz.isAgg32 Tryz.sizeOf32 rfl rfl rfl rfl, p_move rfl rfl, p_index (2) Tryz.runUnderlying25 Tryz.sizeOf35 rfl rfl rfl rfl rfl rfl, p_fieldSh fa_35_0 rfl rfl rfl, p_loadSh Tryz.isAgg32 Tryz.sizeOf32 rfl rfl rfl rfl, p_move rfl rfl, p_index (3) Tryz.runUnderlying25 Tryz.sizeOf35 rfl rfl rfl rfl rfl rfl, p_fieldSh fa_35_0 rfl rfl rfl, p_loadSh Tryz.isAgg32 Tryz.sizeOf32 rfl rfl rfl rfl, trivial⟩ rfl ?_
 refine w_ (p_call Tryz.func60 rfl rfl rfl rfl (d_pred_InCircle (ha) (hb) (hc) (hd) (ca) (cb) (cc) (cd)) rfl) ?_
 refine w_ (p_fieldOw fa_73_1 rfl rfl) ?_
 refine a_storeOw 4 Tryz.sizeOf27 rfl rfl rfl rfl rfl rfl rfl ?_
 refine aw_nil ?_
 refine ac_seq (ac_reg ?_)
 refine w_ (p_fieldOw fa_73_1 rfl rfl) ?_
 refine w_ (p_loadOw 4 Tryz.isAgg27 Tryz.sizeOf27 rfl rfl rfl rfl rfl) ?_
 refine w_ (p_loadSh Tryz.isAgg44 Tryz.sizeOf44 rfl rfl rfl rfl) ?_
 refine w_ (p_call Tryz.func62 rfl rfl rfl rfl (d_germ_AtQ (pb_circle ha hb hc hd ca cb cc cd) (hq)) rfl) ?_
 refine w_ (p_fieldOw fa_73_2 rfl rfl) ?_
 refine a_storeOw 4 Tryz.sizeOf3 rfl rfl rfl rfl rfl rfl rfl ?_
 refine aw_nil ?_
 refine ac_seq (ac_reg ?_)
 refine w_ (p_loadOw 4 Tryz.isAgg73 Tryz.sizeOf73 rfl rfl rfl rfl rfl) ?_
 refine a_storeOw 5 Tryz.sizeOf73 rfl rfl rfl rfl rfl rfl rfl ?_
 refine w_ (p_assign rfl rfl) ?_
 refine aw_nil ?_
 refine ac_ret ?_
 exact retB_2 Tryz.results28 (rv_cell 5 Tryz.isAgg73 Tryz.sizeOf73 rfl rfl rfl rfl rfl) (rv_tmp rfl rfl) (by simp only [mkCircle])
end Orr

namespace Orr
open Go
variable {P : Program} {ops : Array Oper} {n d : Nat} {L : Sg} {B : List OB} {ty : TypeId} {pos : String} {after : Array Edge}
theorem p_indexVA (i : Nat) {t E len sz : Nat} {x y : Operand} {kd : IntKind} {p : Int} {xs zs : List LV} (hu : ∀ w, (underlying t).run P w = .ok (.array len E) w) (hs : ∀ w, (Go.sizeOf E).run P w = .ok sz w) (ht : ∀ w, (isAgg E).run P w = .ok true w)
    (hx : evA L x = some (.agg xs)) (hy : evA L y = some (.one (.int kd p))) (hp : p = (i : Int)) (hi : i < len) (hz : (xs.drop (i * sz)).take sz = zs) (hd : Nat.blt d n = true) :
    AP P ops n { dst := some d, op := .index t x y, type := ty, pos := pos, after := after, guard := none } d (.agg zs) L B :=
  p_val hd fun K Ob w0 w a Bs L' Fs h hL hB => by
    subst hp hz
    obtain ⟨v, hv, vs, rfl, hreps⟩ := ev_of hL hx
    obtain ⟨u, hu', hr2⟩ := ev_of hL hy
    obtain rfl := rep_int hr2
    refine ⟨.agg ((vs.drop (i * sz)).take sz).toArray, ?_, ⟨_, rfl, (hreps.drop _).take _⟩⟩
    have h0 : (0 : Int) ≤ (i : Int) ∧ (i : Int) < (len : Int) := by omega
    simp [execOp, h.ev hv, h.ev hu', Instr.index, asIntOf, hu, hs, h0, hi, Go.part, ht, List.extract]
end Orr
namespace Orr
open Go
variable {P : Program} {ops : Array Oper} {n d : Nat} {L : Sg} {B : List OB} {ty : TypeId} {pos : String} {after : Array Edge}
theorem p_gskipU {op : Op} {j t : Nat} {want b : Bool} (hj : (ops[j]?).bind (·.dst) = some t) (hv : lk L t = some (.one (.bool b))) (hb : b = !want) (hd : Nat.blt d n = true) :
    AP P ops n { dst := some d, op := op, type := ty, pos := pos, after := after, guard := some (j, want) } d (.tup []) L B := by
  intro K Ob w0 w a Bs L' Fs h hL hB
  obtain ⟨v, hv, hr⟩ := hL t _ hv
  obtain rfl := rep_bool hr
  exact guard_skip h hj hv hb hd fun a' h' => wpList_nil ⟨rfl, _, h', ⟨[], rfl, trivial⟩⟩
theorem p_gskip2 {op : Op} {j t : Nat} {want : Bool} (hj : (ops[j]?).bind (·.dst) = some t) (hv : lk L t = some (.tup [])) (hd : Nat.blt d n = true) :
    AP P ops n { dst := some d, op := op, type := ty, pos := pos, after := after, guard := some (j, want) } d (.tup []) L B := by
  intro K Ob w0 w a Bs L' Fs h hL hB
  obtain ⟨v, hv, hr⟩ := hL t _ hv
  obtain ⟨vs, rfl, hvs⟩ : ∃ vs : List Value, v = .tuple vs.toArray ∧ TReps w (owns Ob Bs) vs [] := hr
  obtain rfl : vs = [] := List.eq_nil_of_length_eq_zero (by have := hvs.len; simpa using this)
  have hs := h.slots t _ hv
  have hw : Region.wanted { dst := some d, op := op, type := ty, pos := pos, after := after, guard := some (j, want) } (yielded ops a.tmps) = false := by
    simp [Region.wanted, yielded, hj, hs]
  unfold wpList
  rw [if_neg (by rw [hw]; simp)]
  exact wpList_nil ⟨rfl, _, h.put undef hd, ⟨[], rfl, trivial⟩⟩
end Orr

namespace Orr
open Go
variable {P : Program} {ops : Array Oper} {n : Nat} {rest : List Oper} {N : Sg → List OB → Prop} {L : Sg} {B : List OB}
def nilAt : Nat → Nat → List LV → Option (List LV)
  | 0, sz, x :: l => match x.isNil with
    | true => some (.orow none sz 0 0 :: l)
    | false => none
  | j + 1, sz, x :: l => match nilAt j sz l with
    | some r => some (x :: r)
    | none => none
  | _, _, [] => none
theorem nilAt_of {w : World} {O : Nat → Prop} : ∀ {j sz : Nat} {xs ys : List LV} {vs : List Value}, nilAt j sz xs = some ys → XReps w O vs xs → XReps w O vs ys
  | _, _, [], _, _, h, _ => by simp [nilAt] at h
  | _, _, _ :: _, _, [], _, h => h.elim
  | 0, sz, x :: l, ys, v :: vs, h, hr => by
    simp only [nilAt] at h
    split at h
    · rename_i e
      injection h with h; subst h
      have : x = .nils := by cases x <;> first | rfl | (simp [LV.isNil] at e)
      subst this
      have hv : LRep w O v .nils := hr.1
      cases hv
      exact ⟨⟨rfl, rfl, rfl⟩, hr.2⟩
    · cases h
  | j + 1, sz, x :: l, ys, v :: vs, h, hr => by
    simp only [nilAt] at h
    split at h
    · rename_i r hq
      injection h with h; subst h
      exact ⟨hr.1, nilAt_of hq hr.2⟩
    · cases h
theorem aw_ownLeaf (i j E sz : Nat) {g : Nat} {T : TypeId} {xs ys : List LV} {B' : List OB} (hi : frontB B i = some (.blk g T xs, B')) (hsz : Nat.blt 0 sz = true) (hj : nilAt j sz xs = some ys)
    (k : AW P ops n rest N L (.blk g T ys :: .row none E sz [] :: B')) : AW P ops n rest N L B := by
  intro K Ob w0 w a Q hs hQ
  rw [Nat.blt_eq] at hsz
  obtain ⟨L', Bo, Bs, h1, h2, ⟨cs, rfl, h3⟩, h4⟩ := hs.front hi
  exact k _ _ _ _ _ _ ⟨L', [(g, Tag.ty T, cs)] ++ Bs, h1, h2, [(g, Tag.ty T, cs)], Bs, rfl, ⟨cs, rfl, nilAt_of hj h3⟩, [], Bs, rfl, ⟨hsz, rfl, rfl⟩, h4⟩ hQ
end Orr

namespace Orr
open Go
variable {P : Program} {n : Nat} {L : Sg} {B : List OB} {c : Code} {Q : Exit → Sg → List OB → Prop}
theorem ac_pubLeaf (i k j : Nat) {r : Option (Nat × Nat)} {E sz len g : Nat} {T : TypeId} {ls : List (List LV)} {xs ys : List LV} {B' B2 : List OB} (hi : frontB B i = some (.row r E sz ls, B')) (hk : frontB B' k = some (.blk g T xs, B2))
    (hj : xs[j]? = some (.orow r sz 0 len)) (hys : xs.set j (.row ls) = ys) (hlen : len = ls.length) (h47 : ls.length < 140737488355328) (kk : AC P n c Q L (.blk g T ys :: B2)) : AC P n c Q L B := by
  intro K Ob w0 w a hs
  subst hlen hys
  obtain ⟨L', Bo, Bs, h1, h2, h3, h4⟩ := hs.front hi
  have hle : Le w (owns Ob (Bo ++ Bs)) w (owns Ob Bs) := ⟨Nat.le_refl _, fun _ _ _ => rfl, fun b _ ho => ho.imp id fun hm => by simp only [List.map_append, List.mem_append]; exact .inr hm⟩
  have conv : ∀ v, XRep w (owns Ob Bs) v (.orow r sz 0 ls.length) → LRep w (owns Ob Bs) v (.row ls) := fun v hv => by
    have hv2 : ARep w (owns Ob (Bo ++ Bs)) v (.one (.orow r sz 0 ls.length)) := by
      rcases r with _ | ⟨g, c⟩ <;> exact hv
    have := row_rep h1 h3 hv2 rfl (by omega) h47
    rw [List.drop_zero, List.take_length] at this
    exact this
  have h5 := h4.keep hle
  have h6 := keep_of hle h2
  obtain ⟨hxk, rfl⟩ := frontB_eq hk
  obtain ⟨Bo2, Bs2, hp, ⟨cs, rfl, h7⟩, h8⟩ := h5.front hxk
  have ho : owns Ob Bs = owns Ob ([(g, Tag.ty T, cs)] ++ Bs2) := by
    funext b
    simp only [owns]
    rw [show (b ∈ Bs.map (·.1)) = (b ∈ ([(g, Tag.ty T, cs)] ++ Bs2).map (·.1)) from propext ((hp.map _).mem_iff)]
  obtain ⟨v, hv, hvr⟩ := h7.get hj
  have h9 := conv v hvr
  have h10 : XReps w (owns Ob Bs) cs (xs.set j (.row ls)) := by
    refine XReps.of (by rw [List.length_set]; exact h7.len) fun q u x hu hx => ?_
    rw [List.getElem?_set] at hx
    split at hx
    · rename_i e
      subst e
      split at hx <;> first | cases hx | skip
      rw [hv] at hu; injection hu with hu; subst hu
      exact LRep.x h9
    · exact h7.get' hu hx
  rw [ho] at h6 h8 h10
  exact kk _ _ _ _ _ ⟨L', [(g, Tag.ty T, cs)] ++ Bs2, h1.tailB.perm hp.symm, h6, [(g, Tag.ty T, cs)], Bs2, rfl, ⟨cs, rfl, h10⟩, h8⟩
end Orr
