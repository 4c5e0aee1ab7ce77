/- AMeshB WholeAbs SquaresL AConst -/
import Derived.Test.YtdigkdmaagnimaaGreatPart09
import Derived.Test.YtdigkdmaagnimaaGreatPart05
import Derived.Test.YtdigkdmaagnimaaGreatPart06
import Derived.Test.YtdigkdmaagnimaaGreatPart08
set_option linter.all false

namespace Orr
open Go Go.Proofs
theorem pairs_at {w : List Pt} {i j : Nat} {b : Pt} (h : (w.drop (i + 1))[j]? = some b) : pairsK (j + 1) (w.drop (i + 1)) = pairsK j (w.drop (i + 1)) ++ (w.drop (i + j + 2)).map (fun y => (b, y)) := by
 rw [pairsK_next _ _ _ h, List.drop_drop]
 rw [show i + 1 + (j + 1) = i + j + 2 from by omega]
theorem tri_at {w : List Pt} {i j : Nat} {b : Pt} (h : (w.drop (i + 1))[j]? = some b) : triK (j + 1) (w.drop (i + 1)) = triK j (w.drop (i + 1)) ++ (pairsOf (w.drop (i + j + 2))).map (fun y => (b, y)) := by
 rw [triK_next _ _ _ h, List.drop_drop]
 rw [show i + 1 + (j + 1) = i + j + 2 from by omega]
theorem pairs_at2 {w : List Pt} {i j k : Nat} {c : Pt} (h : (w.drop (i + j + 2))[k]? = some c) : pairsK (k + 1) (w.drop (i + j + 2)) = pairsK k (w.drop (i + j + 2)) ++ (w.drop (i + j + k + 3)).map (fun y => (c, y)) := by
 rw [pairsK_next _ _ _ h, List.drop_drop]
 rw [show i + j + 2 + (k + 1) = i + j + k + 3 from by omega]
theorem fm_t {α β : Type} {X : List β} {l : List α} {f : α → β} {p : β → Bool} {c : α} (h : p (f c) = true) : X ++ ((l ++ [c]).map f).filter p = (X ++ (l.map f).filter p) ++ [f c] := by
 rw [List.map_append, List.filter_append, ← List.append_assoc]
 simp [h]
theorem fm_f {α β : Type} {l : List α} {f : α → β} {p : β → Bool} {c : α} (h : p (f c) = false) : ((l ++ [c]).map f).filter p = (l.map f).filter p := by
 rw [List.map_append, List.filter_append]
 simp [h]
theorem turnM_snoc' {q : Rat} {ps : List P3} {a b c : Pt} {M : Ents} (h : M = turnM q ps) : putM M [a.id, b.id, c.id] (.int .i64 (mkOrient q a b c).want) = turnM q (ps ++ [(a, (b, c))]) := by rw [turnM_snoc, h]; rfl
theorem fullM_snoc' {q : Rat} {T : Ents} {ps : List P4} {a b c d : Pt} {F : Ents} (h : F = fullM q T ps) : fillM T (mkCircle q a b c d).want [a.id, b.id, c.id, d.id] F = fullM q T (ps ++ [(a, (b, (c, d)))]) := by rw [fullM_snoc, h]; rfl
set_option maxRecDepth 20000 in
set_option maxHeartbeats 4000000 in
theorem d_delaunay_build {g : Nat} {c0 c1 c2 c3 c4 c5 c6 c7 c8 c9 c10 c11 y1 : LV} {l : List Pt} {q : Rat} (hq : Qb q) (hl : GoodP l) (hn : l.length ≤ 10) : DoesB Tryz.prog 16 [.one (.ow g 0), .agg [pl ([-q.num, (q.den : Int)]), sg q.num, mg q.num, sg ((q.den : Int)), mg ((q.den : Int)), sg q.num, mg q.num, sg ((q.den : Int)), mg ((q.den : Int))]] [.blk g 54 [c0, c1, c2, c3, c4, c5, c6, c7, c8, c9, c10, c11, pts l, y1]] fun r B => r = .one (cts ((meshC q l))) ∧ B = [.blk g 54 [c0, c1, c2, c3, c4, c5, c6, c7, c8, c9, c10, c11, pts l, tris ((meshT q l))]] := by
 refine does_ (n := 231) Tryz.func16 rfl Tryz.ntmps16 rfl ?_
 have hgw : GoodP (ways l) := fun a ha => hl a (ways_mem ha)
 have hwl := ways_len l
 skip
 refine ac_seq (ac_reg ?_)
 refine w_ (p_boxS rfl rfl rfl rfl) ?_
 refine w_ (p_assign rfl rfl) ?_
 refine aw_nil ?_
 refine ac_seq (ac_reg ?_)
 refine w_ (p_move rfl rfl) ?_
 refine w_ (p_nilCheck rfl rfl rfl) ?_
 refine w_ (p_fieldOw fa_54_1 rfl rfl) ?_
 refine w_ (p_loadOw 0 Tryz.isAgg51 Tryz.sizeOf51 rfl rfl rfl rfl rfl) ?_
 refine w_ (p_call Tryz.func27 rfl rfl rfl rfl (d_crowd_Ways (fun a ha => ⟨(hl a ha).1, (hl a ha).2.mono (by omega) (by omega)⟩) (by omega)) rfl) ?_
 refine w_ (p_assign rfl rfl) ?_
 refine aw_nil ?_
 refine ac_seq (ac_reg ?_)
 refine w_ (p_assign rfl rfl) ?_
 refine aw_nil ?_
 refine ac_seq (ac_reg ?_)
 refine a_makeMap rfl fun g1 => ?_
 refine w_ (p_assign rfl rfl) ?_
 refine aw_nil ?_
 refine ac_seq (ac_seq (ac_reg ?_))
 refine w_ (p_move rfl rfl) ?_
 refine w_ (p_len (m := ((ways l)).length) Tryz.runUnderlying25 rfl (rlen_pts _) rfl) ?_
 refine w_ (p_move rfl rfl) ?_
 refine aw_nil ?_
 refine ac_block ?_
 refine ac_ownNil [6] 73 7 rfl (allAre1 rfl) rfl ?_
 refine ac_pick [0, 3, 5, 7, 40, 41, 6, 42] rfl ?_
 refine ac_loop (fun m L B => ∃ i r ps O M, i ≤ (ways l).length ∧ ps = triK i (ways l) ∧ O = ps.map (oriC q) ∧ M = turnM q ps ∧ O.length ≤ i * 100 ∧ m = (ways l).length - i ∧ L = [(0, .one (.ow g 0)), (3, .one (.sh [pl ([-q.num, (q.den : Int)]), sg q.num, mg q.num, sg ((q.den : Int)), mg ((q.den : Int)), sg q.num, mg q.num, sg ((q.den : Int)), mg ((q.den : Int))])), (5, .one (pts ((ways l)))), (7, .one (.omap g1)), (40, .one (pts ((ways l)))), (41, .one (.int .i64 (((((ways l)).length : Nat) : Int)))), (6, .one (.orow r 7 0 O.length)), (42, .one (.int .i64 (((i : Nat) : Int))))] ∧ B = [.row r 73 7 (O.map ofCt), .mpb g1 M, .blk g 54 [c0, c1, c2, c3, c4, c5, c6, c7, c8, c9, c10, c11, pts l, y1]]) (m := _) ⟨0, none, [], [], [], Nat.zero_le _, rfl, rfl, rfl, by simp, rfl, rfl, rfl⟩ ?_
 rintro m L B ⟨i, r, ps, O, M, ea0, ea1, ea2, ea3, ea4, hm, rfl, rfl⟩
 by_cases h1 : i < (ways l).length
 ·obtain ⟨a, ha⟩ : ∃ a, (ways l)[i]? = some a := ⟨_, List.getElem?_eq_getElem h1⟩
  have hag := hgw a (List.mem_of_getElem? ha)
  have hd1 : ((ways l).drop (i + 1)).length = (ways l).length - (i + 1) := List.length_drop ..
  refine ac_seq (ac_reg ?_)
  refine w_ (p_cmp rfl rfl rfl rfl) ?_
  refine aw_nil ?_
  refine ac_seq ?_
  refine ac_t rfl (decide_eq_true (by omega)) ?_
  refine ac_skip ?_
  refine ac_seq (ac_block (ac_seq (ac_reg ?_)))
  refine w_ (p_move rfl rfl) ?_
  refine w_ (p_index (i) Tryz.runUnderlying25 Tryz.sizeOf35 rfl rfl (rfl) (map_get ha) rfl rfl) ?_
  refine w_ (p_loadSh Tryz.isAgg35 Tryz.sizeOf35 rfl rfl rfl rfl) ?_
  refine a_alloc Tryz.zeroValue35 rfl rfl fun g2 => ?_
  refine w_ (p_assign rfl rfl) ?_
  refine a_storeOw 0 Tryz.sizeOf35 rfl rfl rfl rfl rfl rfl rfl ?_
  refine aw_nil ?_
  refine ac_seq (ac_reg ?_)
  refine w_ (p_move rfl rfl) ?_
  refine w_ (p_move rfl rfl) ?_
  refine w_ (p_add (r := ((i + 1 : Nat) : Int)) rfl rfl (i64_is (by omega) (by omega)) rfl) ?_
  refine w_ (p_sliceLo (i + 1) Tryz.runUnderlying25 Tryz.sizeOf35 rfl rfl rfl (by rw [List.length_map]; omega) (map_w (ways l) (fun _ => rfl)) (l' := ((ways l).drop (i + 1)).map ofPt) (by rw [List.map_drop]) rfl) ?_
  refine w_ (p_len (m := (((ways l).drop (i + 1))).length) Tryz.runUnderlying25 rfl (rlen_pts _) rfl) ?_
  refine w_ (p_move rfl rfl) ?_
  refine aw_nil ?_
  refine ac_block ?_
  refine ac_pick [0, 3, 5, 7, 40, 41, 8, 9, 42, 50, 51, 6, 52] rfl ?_
  refine ac_front 3 rfl ?_
  refine ac_front 1 rfl ?_
  refine ac_front 3 rfl ?_
  refine ac_front 3 rfl ?_
  refine ac_loop (fun m L B => ∃ j r2 ps2 O2 M2, j ≤ ((ways l).drop (i + 1)).length ∧ ps2 = ps ++ (pairsK j ((ways l).drop (i + 1))).map (fun m => (a, m)) ∧ O2 = ps2.map (oriC q) ∧ M2 = turnM q ps2 ∧ O2.length ≤ O.length + j * 10 ∧ m = ((ways l).drop (i + 1)).length - j ∧ L = [(0, .one (.ow g 0)), (3, .one (.sh [pl ([-q.num, (q.den : Int)]), sg q.num, mg q.num, sg ((q.den : Int)), mg ((q.den : Int)), sg q.num, mg q.num, sg ((q.den : Int)), mg ((q.den : Int))])), (5, .one (pts ((ways l)))), (7, .one (.omap g1)), (40, .one (pts ((ways l)))), (41, .one (.int .i64 (((((ways l)).length : Nat) : Int)))), (8, .one (.int .i64 (((i : Nat) : Int)))), (9, .one (.ow g2 0)), (42, .one (.int .i64 (((i : Nat) : Int)))), (50, .one (pts (((ways l).drop (i + 1))))), (51, .one (.int .i64 ((((((ways l).drop (i + 1))).length : Nat) : Int)))), (6, .one (.orow r2 7 0 O2.length)), (52, .one (.int .i64 (((j : Nat) : Int))))] ∧ B = [.row r2 73 7 (O2.map ofCt), .mpb g1 M2, .blk g2 35 [pl a.c.x, pl a.c.y, sg a.c.d, mg a.c.d, .int .i64 a.id], .blk g 54 [c0, c1, c2, c3, c4, c5, c6, c7, c8, c9, c10, c11, pts l, y1]]) (m := _) ⟨0, r, ps, O, M, Nat.zero_le _, (List.append_nil _).symm, ea2, ea3, Nat.le_refl _, rfl, rfl, rfl⟩ ?_
  rintro m L B ⟨j, r2, ps2, O2, M2, eb0, eb1, eb2, eb3, eb4, hm, rfl, rfl⟩
  by_cases h2 : j < ((ways l).drop (i + 1)).length
  ·obtain ⟨b, hb⟩ : ∃ b, ((ways l).drop (i + 1))[j]? = some b := ⟨_, List.getElem?_eq_getElem h2⟩
   have hbg := hgw b (List.mem_of_mem_drop (List.mem_of_getElem? hb))
   have hd2 : ((ways l).drop (i + j + 2)).length = (ways l).length - (i + j + 2) := List.length_drop ..
   refine ac_seq (ac_reg ?_)
   refine w_ (p_cmp rfl rfl rfl rfl) ?_
   refine aw_nil ?_
   refine ac_seq ?_
   refine ac_t rfl (decide_eq_true (by omega)) ?_
   refine ac_skip ?_
   refine ac_seq (ac_block (ac_seq (ac_reg ?_)))
   refine w_ (p_move rfl rfl) ?_
   refine w_ (p_index (j) Tryz.runUnderlying25 Tryz.sizeOf35 rfl rfl (rfl) (map_get hb) rfl rfl) ?_
   refine w_ (p_loadSh Tryz.isAgg35 Tryz.sizeOf35 rfl rfl rfl rfl) ?_
   refine a_alloc Tryz.zeroValue35 rfl rfl fun g3 => ?_
   refine w_ (p_assign rfl rfl) ?_
   refine a_storeOw 0 Tryz.sizeOf35 rfl rfl rfl rfl rfl rfl rfl ?_
   refine aw_nil ?_
   refine ac_seq (ac_reg ?_)
   refine w_ (p_move rfl rfl) ?_
   refine w_ (p_move rfl rfl) ?_
   refine w_ (p_move rfl rfl) ?_
   refine w_ (p_add (r := ((i + j : Nat) : Int)) rfl rfl (i64_is (by omega) (by omega)) rfl) ?_
   refine w_ (p_add (r := (((i + j) + 2 : Nat) : Int)) rfl rfl (i64_is (by omega) (by omega)) rfl) ?_
   refine w_ (p_sliceLo (i + j + 2) Tryz.runUnderlying25 Tryz.sizeOf35 rfl rfl rfl (by rw [List.length_map]; omega) (map_w (ways l) (fun _ => rfl)) (l' := ((ways l).drop (i + j + 2)).map ofPt) (by rw [List.map_drop]) rfl) ?_
   refine w_ (p_len (m := (((ways l).drop (i + j + 2))).length) Tryz.runUnderlying25 rfl (rlen_pts _) rfl) ?_
   refine w_ (p_move rfl rfl) ?_
   refine aw_nil ?_
   refine ac_block ?_
   refine ac_pick [0, 3, 5, 7, 40, 41, 8, 9, 42, 50, 51, 10, 11, 52, 62, 63, 6, 64] rfl ?_
   refine ac_front 4 rfl ?_
   refine ac_front 1 rfl ?_
   refine ac_front 4 rfl ?_
   refine ac_front 4 rfl ?_
   refine ac_front 4 rfl ?_
   refine ac_loop (fun m L B => ∃ k r3 ps3 O3 M3, k ≤ ((ways l).drop (i + j + 2)).length ∧ ps3 = ps2 ++ (((ways l).drop (i + j + 2)).take k).map (fun y => (a, (b, y))) ∧ O3 = ps3.map (oriC q) ∧ M3 = turnM q ps3 ∧ O3.length ≤ O2.length + k ∧ m = ((ways l).drop (i + j + 2)).length - k ∧ L = [(0, .one (.ow g 0)), (3, .one (.sh [pl ([-q.num, (q.den : Int)]), sg q.num, mg q.num, sg ((q.den : Int)), mg ((q.den : Int)), sg q.num, mg q.num, sg ((q.den : Int)), mg ((q.den : Int))])), (5, .one (pts ((ways l)))), (7, .one (.omap g1)), (40, .one (pts ((ways l)))), (41, .one (.int .i64 (((((ways l)).length : Nat) : Int)))), (8, .one (.int .i64 (((i : Nat) : Int)))), (9, .one (.ow g2 0)), (42, .one (.int .i64 (((i : Nat) : Int)))), (50, .one (pts (((ways l).drop (i + 1))))), (51, .one (.int .i64 ((((((ways l).drop (i + 1))).length : Nat) : Int)))), (10, .one (.int .i64 (((j : Nat) : Int)))), (11, .one (.ow g3 0)), (52, .one (.int .i64 (((j : Nat) : Int)))), (62, .one (pts (((ways l).drop (i + j + 2))))), (63, .one (.int .i64 ((((((ways l).drop (i + j + 2))).length : Nat) : Int)))), (6, .one (.orow r3 7 0 O3.length)), (64, .one (.int .i64 (((k : Nat) : Int))))] ∧ B = [.row r3 73 7 (O3.map ofCt), .mpb g1 M3, .blk g2 35 [pl a.c.x, pl a.c.y, sg a.c.d, mg a.c.d, .int .i64 a.id], .blk g3 35 [pl b.c.x, pl b.c.y, sg b.c.d, mg b.c.d, .int .i64 b.id], .blk g 54 [c0, c1, c2, c3, c4, c5, c6, c7, c8, c9, c10, c11, pts l, y1]]) (m := _) ⟨0, r2, ps2, O2, M2, Nat.zero_le _, by simp, eb2, eb3, Nat.le_refl _, rfl, rfl, rfl⟩ ?_
   rintro m L B ⟨k, r3, ps3, O3, M3, ec0, ec1, ec2, ec3, ec4, hm, rfl, rfl⟩
   by_cases h3 : k < ((ways l).drop (i + j + 2)).length
   ·obtain ⟨c, hc⟩ : ∃ c, ((ways l).drop (i + j + 2))[k]? = some c := ⟨_, List.getElem?_eq_getElem h3⟩
    have hcg := hgw c (List.mem_of_mem_drop (List.mem_of_getElem? hc))
    refine ac_seq (ac_reg ?_)
    refine w_ (p_cmp rfl rfl rfl rfl) ?_
    refine aw_nil ?_
    refine ac_seq ?_
    refine ac_t rfl (decide_eq_true (by omega)) ?_
    refine ac_skip ?_
    refine ac_seq (ac_block (ac_seq (ac_reg ?_)))
    refine w_ (p_index (k) Tryz.runUnderlying25 Tryz.sizeOf35 rfl rfl (rfl) (map_get hc) rfl rfl) ?_
    refine w_ (p_loadSh Tryz.isAgg35 Tryz.sizeOf35 rfl rfl rfl rfl) ?_
    refine a_alloc Tryz.zeroValue35 rfl rfl fun g4 => ?_
    refine a_storeOw 0 Tryz.sizeOf35 rfl rfl rfl rfl rfl rfl rfl ?_
    refine aw_nil ?_
    refine ac_seq (ac_reg ?_)
    refine w_ (p_loadSh Tryz.isAgg44 Tryz.sizeOf44 rfl rfl rfl rfl) ?_
    refine w_ (p_loadOw 3 Tryz.isAgg35 Tryz.sizeOf35 rfl rfl rfl rfl rfl) ?_
    refine w_ (p_loadOw 4 Tryz.isAgg35 Tryz.sizeOf35 rfl rfl rfl rfl rfl) ?_
    refine w_ (p_loadOw 0 Tryz.isAgg35 Tryz.sizeOf35 rfl rfl rfl rfl rfl) ?_
    refine w_ (p_lit Tryz.runUnderlying25 Tryz.sizeOf35 Tryz.zeroValue35 rfl rfl rfl rfl rfl rfl rfl rfl rfl rfl) ?_
    refine w_ (p_call Tryz.func28 rfl rfl rfl rfl (d_cert_Orient (hag.1) (hbg.1) (hcg.1) (hag.2) (hbg.2) (hcg.2) (hq)) rfl) ?_
    refine w_ (p_move rfl rfl) ?_
    refine w_ (p_extract rfl rfl rfl) ?_
    refine w_ (p_extract rfl rfl rfl) ?_
    refine a_alloc Tryz.zeroValue73 rfl rfl fun g5 => ?_
    refine a_storeOw 0 Tryz.sizeOf73 rfl rfl rfl rfl rfl rfl rfl ?_
    refine w_ (p_assign rfl rfl) ?_
    refine aw_nil ?_
    refine ac_seq (ac_reg ?_)
    refine w_ (p_move rfl rfl) ?_
    refine w_ (p_loadOw 0 Tryz.isAgg73 Tryz.sizeOf73 rfl rfl rfl rfl rfl) ?_
    refine w_ (p_lit Tryz.runUnderlying65 Tryz.sizeOf73 Tryz.zeroValue73 rfl rfl rfl rfl rfl rfl rfl rfl rfl rfl) ?_
    refine a_append (ls2 := ((O3 ++ [mkOrient q a b c]).map ofCt)) (m2 := (O3 ++ [mkOrient q a b c]).length) 2 Tryz.runUnderlying65 Tryz.runUnderlying65 Tryz.typeInfo73 rfl rfl Tryz.sizeOf73 Tryz.zeroValue73 rfl rfl rfl rfl rfl rfl rfl (by rw [List.length_map]; exact Nat.le_refl _) (one_w rfl) (one_f rfl) (by show _ + 1 < _; omega) (by rw [List.take_of_length_le (by rw [List.length_map]; exact Nat.le_refl _)]; exact snoc_map ofCt _ _) (by rw [List.length_append]; rfl) fun r6 => ?_
    refine w_ (p_assign rfl rfl) ?_
    refine aw_nil ?_
    refine ac_reg ?_
    refine w_ (p_move rfl rfl) ?_
    refine w_ (p_fieldOw fa_35_1 rfl rfl) ?_
    refine w_ (p_loadOw 4 Tryz.isAgg3 Tryz.sizeOf3 rfl rfl rfl rfl rfl) ?_
    refine w_ (p_fieldOw fa_35_1 rfl rfl) ?_
    refine w_ (p_loadOw 5 Tryz.isAgg3 Tryz.sizeOf3 rfl rfl rfl rfl rfl) ?_
    refine w_ (p_fieldOw fa_35_1 rfl rfl) ?_
    refine w_ (p_loadOw 2 Tryz.isAgg3 Tryz.sizeOf3 rfl rfl rfl rfl rfl) ?_
    refine w_ (p_build (bd_78) rfl rfl rfl rfl) ?_
    refine w_ (p_fieldOw fa_73_2 rfl rfl) ?_
    refine w_ (p_loadOw 1 Tryz.isAgg3 Tryz.sizeOf3 rfl rfl rfl rfl rfl) ?_
    refine a_mapUpdate (ks := [a.id, b.id, c.id]) (v := .int .i64 (((mkOrient q a b c)).want)) 3 mapT_89 rfl rfl rfl rfl rfl rfl ?_
    refine aw_nil ?_
    refine ac_reg ?_
    refine w_ (p_add (r := ((k + 1 : Nat) : Int)) rfl rfl (i64_is (by omega) (by omega)) rfl) ?_
    refine w_ (p_move rfl rfl) ?_
    refine aw_pick [0, 3, 5, 7, 40, 41, 8, 9, 42, 50, 51, 10, 11, 52, 62, 63, 6, 64] rfl ?_
    refine aw_drop 2 rfl ?_
    refine aw_drop 2 rfl ?_
    refine aw_front 4 rfl ?_
    refine aw_front 4 rfl ?_
    refine aw_front 4 rfl ?_
    refine aw_front 3 rfl ?_
    refine aw_front 4 rfl ?_
    refine aw_nil ?_
    refine ⟨_, ?_, k + 1, r6, ps3 ++ [(a, (b, c))], O3 ++ [mkOrient q a b c], (putM M3 [a.id, b.id, c.id] (.int .i64 (((mkOrient q a b c)).want))), by omega, by rw [take_snoc hc, List.map_append, ← List.append_assoc, ← ec1]; rfl, by rw [List.map_append, ← ec2]; rfl, turnM_snoc' ec3, by rw [List.length_append]; show O3.length + 1 ≤ _; omega, rfl, rfl, rfl⟩
    omega
   have hk2 : ((ways l).drop (i + j + 2)).take k = ((ways l).drop (i + j + 2)) := List.take_of_length_le (by omega)
   refine ac_seq (ac_reg ?_)
   refine w_ (p_cmp rfl rfl rfl rfl) ?_
   refine aw_nil ?_
   refine ac_seq ?_
   refine ac_f rfl (decide_eq_false (by omega)) ?_
   refine ac_exit ?_
   repeat refine seqQ_exit ?_
   refine blkQ_here ?_
   refine ac_reg ?_
   refine w_ (p_add (r := ((j + 1 : Nat) : Int)) rfl rfl (i64_is (by omega) (by omega)) rfl) ?_
   refine w_ (p_move rfl rfl) ?_
   refine aw_pick [0, 3, 5, 7, 40, 41, 8, 9, 42, 50, 51, 6, 52] rfl ?_
   refine aw_drop 3 rfl ?_
   refine aw_nil ?_
   refine ⟨_, ?_, j + 1, r3, ps3, O3, M3, by omega, by rw [ec1, eb1, pairs_at hb, hk2, List.map_append, List.append_assoc, List.map_map]; rfl, ec2, ec3, by omega, rfl, rfl, rfl⟩
   omega
  have hj2 : j = ((ways l).drop (i + 1)).length := by omega
  refine ac_seq (ac_reg ?_)
  refine w_ (p_cmp rfl rfl rfl rfl) ?_
  refine aw_nil ?_
  refine ac_seq ?_
  refine ac_f rfl (decide_eq_false (by omega)) ?_
  refine ac_exit ?_
  repeat refine seqQ_exit ?_
  refine blkQ_here ?_
  refine ac_reg ?_
  refine w_ (p_add (r := ((i + 1 : Nat) : Int)) rfl rfl (i64_is (by omega) (by omega)) rfl) ?_
  refine w_ (p_move rfl rfl) ?_
  refine aw_pick [0, 3, 5, 7, 40, 41, 6, 42] rfl ?_
  refine aw_drop 2 rfl ?_
  refine aw_nil ?_
  refine ⟨_, ?_, i + 1, r2, ps2, O2, M2, by omega, by rw [eb1, ea1, triK_next _ _ _ ha, hj2]; rfl, eb2, eb3, by omega, rfl, rfl, rfl⟩
  omega
 have hpt : ps = triples (ways l) := by rw [ea1, show i = (ways l).length from by omega]; rfl
 have hO : O = (triples (ways l)).map (oriC q) := by rw [ea2, hpt]
 have hM : M = turnM q (triples (ways l)) := by rw [ea3, hpt]
 have h_M : IntM M := by rw [hM]; exact intM_turn _ _
 have hOl : O.length ≤ 1000 := by omega
 refine ac_seq (ac_reg ?_)
 refine w_ (p_cmp rfl rfl rfl rfl) ?_
 refine aw_nil ?_
 refine ac_seq ?_
 refine ac_f rfl (decide_eq_false (by omega)) ?_
 refine ac_exit ?_
 repeat refine seqQ_exit ?_
 refine blkQ_here ?_
 refine ac_seq (ac_reg ?_)
 refine a_makeMap rfl fun g7 => ?_
 refine w_ (p_assign rfl rfl) ?_
 refine aw_nil ?_
 refine ac_seq (ac_seq (ac_reg ?_))
 refine w_ (p_move rfl rfl) ?_
 refine w_ (p_len (m := ((ways l)).length) Tryz.runUnderlying25 rfl (rlen_pts _) rfl) ?_
 refine w_ (p_move rfl rfl) ?_
 refine aw_nil ?_
 refine ac_block ?_
 refine ac_pick [0, 5, 7, 3, 16, 95, 96, 6, 97] rfl ?_
 refine ac_front 3 rfl ?_
 refine ac_front 3 rfl ?_
 refine ac_front 2 rfl ?_
 refine ac_front 3 rfl ?_
 refine ac_loop (fun m L B => ∃ i s1 qs1 P1 F1, i ≤ (ways l).length ∧ qs1 = quaK i (ways l) ∧ P1 = (triples (ways l)).map (oriC q) ++ qs1.map (cirC q) ∧ F1 = fullM q M qs1 ∧ P1.length ≤ 1000 + i * 1000 ∧ m = (ways l).length - i ∧ L = [(0, .one (.ow g 0)), (5, .one (pts ((ways l)))), (7, .one (.omap g1)), (3, .one (.sh [pl ([-q.num, (q.den : Int)]), sg q.num, mg q.num, sg ((q.den : Int)), mg ((q.den : Int)), sg q.num, mg q.num, sg ((q.den : Int)), mg ((q.den : Int))])), (16, .one (.omap g7)), (95, .one (pts ((ways l)))), (96, .one (.int .i64 (((((ways l)).length : Nat) : Int)))), (6, .one (.orow s1 7 0 P1.length)), (97, .one (.int .i64 (((i : Nat) : Int))))] ∧ B = [.row s1 73 7 (P1.map ofCt), .mpb g7 F1, .mpb g1 M, .blk g 54 [c0, c1, c2, c3, c4, c5, c6, c7, c8, c9, c10, c11, pts l, y1]]) (m := _) ⟨0, r, [], O, [], Nat.zero_le _, rfl, by rw [hO]; exact (List.append_nil _).symm, rfl, by omega, rfl, rfl, rfl⟩ ?_
 rintro m L B ⟨i, s1, qs1, P1, F1, fa0, fa1, fa2, fa3, fa4, hm, rfl, rfl⟩
 by_cases h1 : i < (ways l).length
 ·obtain ⟨a, ha⟩ : ∃ a, (ways l)[i]? = some a := ⟨_, List.getElem?_eq_getElem h1⟩
  have hag := hgw a (List.mem_of_getElem? ha)
  have hd1 : ((ways l).drop (i + 1)).length = (ways l).length - (i + 1) := List.length_drop ..
  refine ac_seq (ac_reg ?_)
  refine w_ (p_cmp rfl rfl rfl rfl) ?_
  refine aw_nil ?_
  refine ac_seq ?_
  refine ac_t rfl (decide_eq_true (by omega)) ?_
  refine ac_skip ?_
  refine ac_seq (ac_block (ac_seq (ac_reg ?_)))
  refine w_ (p_move rfl rfl) ?_
  refine w_ (p_index (i) Tryz.runUnderlying25 Tryz.sizeOf35 rfl rfl (rfl) (map_get ha) rfl rfl) ?_
  refine w_ (p_loadSh Tryz.isAgg35 Tryz.sizeOf35 rfl rfl rfl rfl) ?_
  refine a_alloc Tryz.zeroValue35 rfl rfl fun g8 => ?_
  refine w_ (p_assign rfl rfl) ?_
  refine a_storeOw 0 Tryz.sizeOf35 rfl rfl rfl rfl rfl rfl rfl ?_
  refine aw_nil ?_
  refine ac_seq (ac_reg ?_)
  refine w_ (p_move rfl rfl) ?_
  refine w_ (p_move rfl rfl) ?_
  refine w_ (p_add (r := ((i + 1 : Nat) : Int)) rfl rfl (i64_is (by omega) (by omega)) rfl) ?_
  refine w_ (p_sliceLo (i + 1) Tryz.runUnderlying25 Tryz.sizeOf35 rfl rfl rfl (by rw [List.length_map]; omega) (map_w (ways l) (fun _ => rfl)) (l' := ((ways l).drop (i + 1)).map ofPt) (by rw [List.map_drop]) rfl) ?_
  refine w_ (p_len (m := (((ways l).drop (i + 1))).length) Tryz.runUnderlying25 rfl (rlen_pts _) rfl) ?_
  refine w_ (p_move rfl rfl) ?_
  refine aw_nil ?_
  refine ac_block ?_
  refine ac_pick [0, 5, 7, 3, 16, 95, 96, 17, 18, 97, 105, 106, 6, 107] rfl ?_
  refine ac_front 4 rfl ?_
  refine ac_front 1 rfl ?_
  refine ac_front 4 rfl ?_
  refine ac_front 4 rfl ?_
  refine ac_front 4 rfl ?_
  refine ac_loop (fun m L B => ∃ j s2 qs2 P2 F2, j ≤ ((ways l).drop (i + 1)).length ∧ qs2 = qs1 ++ (triK j ((ways l).drop (i + 1))).map (fun m => (a, m)) ∧ P2 = (triples (ways l)).map (oriC q) ++ qs2.map (cirC q) ∧ F2 = fullM q M qs2 ∧ P2.length ≤ P1.length + j * 100 ∧ m = ((ways l).drop (i + 1)).length - j ∧ L = [(0, .one (.ow g 0)), (5, .one (pts ((ways l)))), (7, .one (.omap g1)), (3, .one (.sh [pl ([-q.num, (q.den : Int)]), sg q.num, mg q.num, sg ((q.den : Int)), mg ((q.den : Int)), sg q.num, mg q.num, sg ((q.den : Int)), mg ((q.den : Int))])), (16, .one (.omap g7)), (95, .one (pts ((ways l)))), (96, .one (.int .i64 (((((ways l)).length : Nat) : Int)))), (17, .one (.int .i64 (((i : Nat) : Int)))), (18, .one (.ow g8 0)), (97, .one (.int .i64 (((i : Nat) : Int)))), (105, .one (pts (((ways l).drop (i + 1))))), (106, .one (.int .i64 ((((((ways l).drop (i + 1))).length : Nat) : Int)))), (6, .one (.orow s2 7 0 P2.length)), (107, .one (.int .i64 (((j : Nat) : Int))))] ∧ B = [.row s2 73 7 (P2.map ofCt), .mpb g7 F2, .mpb g1 M, .blk g8 35 [pl a.c.x, pl a.c.y, sg a.c.d, mg a.c.d, .int .i64 a.id], .blk g 54 [c0, c1, c2, c3, c4, c5, c6, c7, c8, c9, c10, c11, pts l, y1]]) (m := _) ⟨0, s1, qs1, P1, F1, Nat.zero_le _, (List.append_nil _).symm, fa2, fa3, Nat.le_refl _, rfl, rfl, rfl⟩ ?_
  rintro m L B ⟨j, s2, qs2, P2, F2, fb0, fb1, fb2, fb3, fb4, hm, rfl, rfl⟩
  by_cases h2 : j < ((ways l).drop (i + 1)).length
  ·obtain ⟨b, hb⟩ : ∃ b, ((ways l).drop (i + 1))[j]? = some b := ⟨_, List.getElem?_eq_getElem h2⟩
   have hbg := hgw b (List.mem_of_mem_drop (List.mem_of_getElem? hb))
   have hd2 : ((ways l).drop (i + j + 2)).length = (ways l).length - (i + j + 2) := List.length_drop ..
   refine ac_seq (ac_reg ?_)
   refine w_ (p_cmp rfl rfl rfl rfl) ?_
   refine aw_nil ?_
   refine ac_seq ?_
   refine ac_t rfl (decide_eq_true (by omega)) ?_
   refine ac_skip ?_
   refine ac_seq (ac_block (ac_seq (ac_reg ?_)))
   refine w_ (p_move rfl rfl) ?_
   refine w_ (p_index (j) Tryz.runUnderlying25 Tryz.sizeOf35 rfl rfl (rfl) (map_get hb) rfl rfl) ?_
   refine w_ (p_loadSh Tryz.isAgg35 Tryz.sizeOf35 rfl rfl rfl rfl) ?_
   refine a_alloc Tryz.zeroValue35 rfl rfl fun g9 => ?_
   refine w_ (p_assign rfl rfl) ?_
   refine a_storeOw 0 Tryz.sizeOf35 rfl rfl rfl rfl rfl rfl rfl ?_
   refine aw_nil ?_
   refine ac_seq (ac_reg ?_)
   refine w_ (p_move rfl rfl) ?_
   refine w_ (p_move rfl rfl) ?_
   refine w_ (p_move rfl rfl) ?_
   refine w_ (p_add (r := ((i + j : Nat) : Int)) rfl rfl (i64_is (by omega) (by omega)) rfl) ?_
   refine w_ (p_add (r := (((i + j) + 2 : Nat) : Int)) rfl rfl (i64_is (by omega) (by omega)) rfl) ?_
   refine w_ (p_sliceLo (i + j + 2) Tryz.runUnderlying25 Tryz.sizeOf35 rfl rfl rfl (by rw [List.length_map]; omega) (map_w (ways l) (fun _ => rfl)) (l' := ((ways l).drop (i + j + 2)).map ofPt) (by rw [List.map_drop]) rfl) ?_
   refine w_ (p_len (m := (((ways l).drop (i + j + 2))).length) Tryz.runUnderlying25 rfl (rlen_pts _) rfl) ?_
   refine w_ (p_move rfl rfl) ?_
   refine aw_nil ?_
   refine ac_block ?_
   refine ac_pick [0, 5, 7, 3, 16, 95, 96, 17, 18, 97, 105, 106, 19, 20, 107, 117, 118, 6, 119] rfl ?_
   refine ac_front 5 rfl ?_
   refine ac_front 1 rfl ?_
   refine ac_front 5 rfl ?_
   refine ac_front 5 rfl ?_
   refine ac_front 5 rfl ?_
   refine ac_front 5 rfl ?_
   refine ac_loop (fun m L B => ∃ k s3 qs3 P3 F3, k ≤ ((ways l).drop (i + j + 2)).length ∧ qs3 = qs2 ++ (pairsK k ((ways l).drop (i + j + 2))).map (fun m => (a, (b, m))) ∧ P3 = (triples (ways l)).map (oriC q) ++ qs3.map (cirC q) ∧ F3 = fullM q M qs3 ∧ P3.length ≤ P2.length + k * 10 ∧ m = ((ways l).drop (i + j + 2)).length - k ∧ L = [(0, .one (.ow g 0)), (5, .one (pts ((ways l)))), (7, .one (.omap g1)), (3, .one (.sh [pl ([-q.num, (q.den : Int)]), sg q.num, mg q.num, sg ((q.den : Int)), mg ((q.den : Int)), sg q.num, mg q.num, sg ((q.den : Int)), mg ((q.den : Int))])), (16, .one (.omap g7)), (95, .one (pts ((ways l)))), (96, .one (.int .i64 (((((ways l)).length : Nat) : Int)))), (17, .one (.int .i64 (((i : Nat) : Int)))), (18, .one (.ow g8 0)), (97, .one (.int .i64 (((i : Nat) : Int)))), (105, .one (pts (((ways l).drop (i + 1))))), (106, .one (.int .i64 ((((((ways l).drop (i + 1))).length : Nat) : Int)))), (19, .one (.int .i64 (((j : Nat) : Int)))), (20, .one (.ow g9 0)), (107, .one (.int .i64 (((j : Nat) : Int)))), (117, .one (pts (((ways l).drop (i + j + 2))))), (118, .one (.int .i64 ((((((ways l).drop (i + j + 2))).length : Nat) : Int)))), (6, .one (.orow s3 7 0 P3.length)), (119, .one (.int .i64 (((k : Nat) : Int))))] ∧ B = [.row s3 73 7 (P3.map ofCt), .mpb g7 F3, .mpb g1 M, .blk g8 35 [pl a.c.x, pl a.c.y, sg a.c.d, mg a.c.d, .int .i64 a.id], .blk g9 35 [pl b.c.x, pl b.c.y, sg b.c.d, mg b.c.d, .int .i64 b.id], .blk g 54 [c0, c1, c2, c3, c4, c5, c6, c7, c8, c9, c10, c11, pts l, y1]]) (m := _) ⟨0, s2, qs2, P2, F2, Nat.zero_le _, by simp [pairsK], fb2, fb3, Nat.le_refl _, rfl, rfl, rfl⟩ ?_
   rintro m L B ⟨k, s3, qs3, P3, F3, fc0, fc1, fc2, fc3, fc4, hm, rfl, rfl⟩
   by_cases h3 : k < ((ways l).drop (i + j + 2)).length
   ·obtain ⟨c, hc⟩ : ∃ c, ((ways l).drop (i + j + 2))[k]? = some c := ⟨_, List.getElem?_eq_getElem h3⟩
    have hcg := hgw c (List.mem_of_mem_drop (List.mem_of_getElem? hc))
    have hd3 : ((ways l).drop (i + j + k + 3)).length = (ways l).length - (i + j + k + 3) := List.length_drop ..
    refine ac_seq (ac_reg ?_)
    refine w_ (p_cmp rfl rfl rfl rfl) ?_
    refine aw_nil ?_
    refine ac_seq ?_
    refine ac_t rfl (decide_eq_true (by omega)) ?_
    refine ac_skip ?_
    refine ac_seq (ac_block (ac_seq (ac_reg ?_)))
    refine w_ (p_move rfl rfl) ?_
    refine w_ (p_index (k) Tryz.runUnderlying25 Tryz.sizeOf35 rfl rfl (rfl) (map_get hc) rfl rfl) ?_
    refine w_ (p_loadSh Tryz.isAgg35 Tryz.sizeOf35 rfl rfl rfl rfl) ?_
    refine a_alloc Tryz.zeroValue35 rfl rfl fun g10 => ?_
    refine w_ (p_assign rfl rfl) ?_
    refine a_storeOw 0 Tryz.sizeOf35 rfl rfl rfl rfl rfl rfl rfl ?_
    refine aw_nil ?_
    refine ac_seq (ac_reg ?_)
    refine w_ (p_move rfl rfl) ?_
    refine w_ (p_move rfl rfl) ?_
    refine w_ (p_move rfl rfl) ?_
    refine w_ (p_add (r := ((i + j : Nat) : Int)) rfl rfl (i64_is (by omega) (by omega)) rfl) ?_
    refine w_ (p_move rfl rfl) ?_
    refine w_ (p_add (r := (((i + j) + k : Nat) : Int)) rfl rfl (i64_is (by omega) (by omega)) rfl) ?_
    refine w_ (p_add (r := ((((i + j) + k) + 3 : Nat) : Int)) rfl rfl (i64_is (by omega) (by omega)) rfl) ?_
    refine w_ (p_sliceLo (i + j + k + 3) Tryz.runUnderlying25 Tryz.sizeOf35 rfl rfl rfl (by rw [List.length_map]; omega) (map_w (ways l) (fun _ => rfl)) (l' := ((ways l).drop (i + j + k + 3)).map ofPt) (by rw [List.map_drop]) rfl) ?_
    refine w_ (p_len (m := (((ways l).drop (i + j + k + 3))).length) Tryz.runUnderlying25 rfl (rlen_pts _) rfl) ?_
    refine w_ (p_move rfl rfl) ?_
    refine aw_nil ?_
    refine ac_block ?_
    refine ac_pick [0, 5, 7, 3, 16, 95, 96, 17, 18, 97, 105, 106, 19, 20, 107, 117, 118, 21, 22, 119, 131, 132, 6, 133] rfl ?_
    refine ac_front 6 rfl ?_
    refine ac_front 1 rfl ?_
    refine ac_front 6 rfl ?_
    refine ac_front 6 rfl ?_
    refine ac_front 6 rfl ?_
    refine ac_front 6 rfl ?_
    refine ac_front 6 rfl ?_
    refine ac_loop (fun m L B => ∃ h s4 qs4 P4 F4, h ≤ ((ways l).drop (i + j + k + 3)).length ∧ qs4 = qs3 ++ (((ways l).drop (i + j + k + 3)).take h).map (fun y => (a, (b, (c, y)))) ∧ P4 = (triples (ways l)).map (oriC q) ++ qs4.map (cirC q) ∧ F4 = fullM q M qs4 ∧ P4.length ≤ P3.length + h ∧ m = ((ways l).drop (i + j + k + 3)).length - h ∧ L = [(0, .one (.ow g 0)), (5, .one (pts ((ways l)))), (7, .one (.omap g1)), (3, .one (.sh [pl ([-q.num, (q.den : Int)]), sg q.num, mg q.num, sg ((q.den : Int)), mg ((q.den : Int)), sg q.num, mg q.num, sg ((q.den : Int)), mg ((q.den : Int))])), (16, .one (.omap g7)), (95, .one (pts ((ways l)))), (96, .one (.int .i64 (((((ways l)).length : Nat) : Int)))), (17, .one (.int .i64 (((i : Nat) : Int)))), (18, .one (.ow g8 0)), (97, .one (.int .i64 (((i : Nat) : Int)))), (105, .one (pts (((ways l).drop (i + 1))))), (106, .one (.int .i64 ((((((ways l).drop (i + 1))).length : Nat) : Int)))), (19, .one (.int .i64 (((j : Nat) : Int)))), (20, .one (.ow g9 0)), (107, .one (.int .i64 (((j : Nat) : Int)))), (117, .one (pts (((ways l).drop (i + j + 2))))), (118, .one (.int .i64 ((((((ways l).drop (i + j + 2))).length : Nat) : Int)))), (21, .one (.int .i64 (((k : Nat) : Int)))), (22, .one (.ow g10 0)), (119, .one (.int .i64 (((k : Nat) : Int)))), (131, .one (pts (((ways l).drop (i + j + k + 3))))), (132, .one (.int .i64 ((((((ways l).drop (i + j + k + 3))).length : Nat) : Int)))), (6, .one (.orow s4 7 0 P4.length)), (133, .one (.int .i64 (((h : Nat) : Int))))] ∧ B = [.row s4 73 7 (P4.map ofCt), .mpb g7 F4, .mpb g1 M, .blk g8 35 [pl a.c.x, pl a.c.y, sg a.c.d, mg a.c.d, .int .i64 a.id], .blk g9 35 [pl b.c.x, pl b.c.y, sg b.c.d, mg b.c.d, .int .i64 b.id], .blk g10 35 [pl c.c.x, pl c.c.y, sg c.c.d, mg c.c.d, .int .i64 c.id], .blk g 54 [c0, c1, c2, c3, c4, c5, c6, c7, c8, c9, c10, c11, pts l, y1]]) (m := _) ⟨0, s3, qs3, P3, F3, Nat.zero_le _, by simp, fc2, fc3, Nat.le_refl _, rfl, rfl, rfl⟩ ?_
    rintro m L B ⟨h, s4, qs4, P4, F4, fd0, fd1, fd2, fd3, fd4, hm, rfl, rfl⟩
    by_cases h4 : h < ((ways l).drop (i + j + k + 3)).length
    ·obtain ⟨d, hd⟩ : ∃ d, ((ways l).drop (i + j + k + 3))[h]? = some d := ⟨_, List.getElem?_eq_getElem h4⟩
     have hdg := hgw d (List.mem_of_mem_drop (List.mem_of_getElem? hd))
     refine ac_seq (ac_reg ?_)
     refine w_ (p_cmp rfl rfl rfl rfl) ?_
     refine aw_nil ?_
     refine ac_seq ?_
     refine ac_t rfl (decide_eq_true (by omega)) ?_
     refine ac_skip ?_
     refine ac_seq (ac_block (ac_seq (ac_reg ?_)))
     refine w_ (p_index (h) Tryz.runUnderlying25 Tryz.sizeOf35 rfl rfl (rfl) (map_get hd) rfl rfl) ?_
     refine w_ (p_loadSh Tryz.isAgg35 Tryz.sizeOf35 rfl rfl rfl rfl) ?_
     refine a_alloc Tryz.zeroValue35 rfl rfl fun g11 => ?_
     refine a_storeOw 0 Tryz.sizeOf35 rfl rfl rfl rfl rfl rfl rfl ?_
     refine aw_nil ?_
     refine ac_seq (ac_reg ?_)
     refine w_ (p_loadSh Tryz.isAgg44 Tryz.sizeOf44 rfl rfl rfl rfl) ?_
     refine w_ (p_loadOw 4 Tryz.isAgg35 Tryz.sizeOf35 rfl rfl rfl rfl rfl) ?_
     refine w_ (p_loadOw 5 Tryz.isAgg35 Tryz.sizeOf35 rfl rfl rfl rfl rfl) ?_
     refine w_ (p_loadOw 6 Tryz.isAgg35 Tryz.sizeOf35 rfl rfl rfl rfl rfl) ?_
     refine w_ (p_loadOw 0 Tryz.isAgg35 Tryz.sizeOf35 rfl rfl rfl rfl rfl) ?_
     refine w_ (p_lit Tryz.runUnderlying25 Tryz.sizeOf35 Tryz.zeroValue35 rfl rfl rfl rfl rfl rfl rfl rfl rfl rfl) ?_
     refine w_ (p_call Tryz.func28 rfl rfl rfl rfl (d_cert_Circle (hag.1) (hbg.1) (hcg.1) (hdg.1) (hag.2) (hbg.2) (hcg.2) (hdg.2) (hq)) rfl) ?_
     refine w_ (p_move rfl rfl) ?_
     refine w_ (p_extract rfl rfl rfl) ?_
     refine w_ (p_extract rfl rfl rfl) ?_
     refine a_alloc Tryz.zeroValue73 rfl rfl fun g12 => ?_
     refine a_storeOw 0 Tryz.sizeOf73 rfl rfl rfl rfl rfl rfl rfl ?_
     refine w_ (p_assign rfl rfl) ?_
     refine aw_nil ?_
     refine ac_seq (ac_reg ?_)
     refine w_ (p_move rfl rfl) ?_
     refine w_ (p_loadOw 0 Tryz.isAgg73 Tryz.sizeOf73 rfl rfl rfl rfl rfl) ?_
     refine w_ (p_lit Tryz.runUnderlying65 Tryz.sizeOf73 Tryz.zeroValue73 rfl rfl rfl rfl rfl rfl rfl rfl rfl rfl) ?_
     refine a_append (ls2 := ((P4 ++ [mkCircle q a b c d]).map ofCt)) (m2 := (P4 ++ [mkCircle q a b c d]).length) 2 Tryz.runUnderlying65 Tryz.runUnderlying65 Tryz.typeInfo73 rfl rfl Tryz.sizeOf73 Tryz.zeroValue73 rfl rfl rfl rfl rfl rfl rfl (by rw [List.length_map]; exact Nat.le_refl _) (one_w rfl) (one_f rfl) (by show _ + 1 < _; omega) (by rw [List.take_of_length_le (by rw [List.length_map]; exact Nat.le_refl _)]; exact snoc_map ofCt _ _) (by rw [List.length_append]; rfl) fun r13 => ?_
     refine w_ (p_assign rfl rfl) ?_
     refine aw_nil ?_
     refine ac_reg ?_
     refine w_ (p_move rfl rfl) ?_
     refine w_ (p_move rfl rfl) ?_
     refine w_ (p_fieldOw fa_73_2 rfl rfl) ?_
     refine w_ (p_loadOw 1 Tryz.isAgg3 Tryz.sizeOf3 rfl rfl rfl rfl rfl) ?_
     refine w_ (p_fieldOw fa_35_1 rfl rfl) ?_
     refine w_ (p_loadOw 5 Tryz.isAgg3 Tryz.sizeOf3 rfl rfl rfl rfl rfl) ?_
     refine w_ (p_fieldOw fa_35_1 rfl rfl) ?_
     refine w_ (p_loadOw 6 Tryz.isAgg3 Tryz.sizeOf3 rfl rfl rfl rfl rfl) ?_
     refine w_ (p_fieldOw fa_35_1 rfl rfl) ?_
     refine w_ (p_loadOw 7 Tryz.isAgg3 Tryz.sizeOf3 rfl rfl rfl rfl rfl) ?_
     refine w_ (p_fieldOw fa_35_1 rfl rfl) ?_
     refine w_ (p_loadOw 2 Tryz.isAgg3 Tryz.sizeOf3 rfl rfl rfl rfl rfl) ?_
     refine w_ (p_build (bd_69) rfl rfl rfl rfl) ?_
     refine aw_front 4 rfl ?_
     refine aw_front 4 rfl ?_
     refine a_calls (Bin := [.mpb g7 F4, .mpb g1 M]) Tryz.func29 rfl rfl rfl rfl (d_mesh_fill h_M (germAt_bd _ _)) rfl fun r_ B_ hr_ => ?_
     obtain ⟨rfl, rfl⟩ := hr_
     refine aw_nil ?_
     refine ac_reg ?_
     refine w_ (p_add (r := ((h + 1 : Nat) : Int)) rfl rfl (i64_is (by omega) (by omega)) rfl) ?_
     refine w_ (p_move rfl rfl) ?_
     refine aw_pick [0, 5, 7, 3, 16, 95, 96, 17, 18, 97, 105, 106, 19, 20, 107, 117, 118, 21, 22, 119, 131, 132, 6, 133] rfl ?_
     refine aw_drop 3 rfl ?_
     refine aw_drop 3 rfl ?_
     refine aw_front 6 rfl ?_
     refine aw_front 6 rfl ?_
     refine aw_front 6 rfl ?_
     refine aw_front 6 rfl ?_
     refine aw_front 5 rfl ?_
     refine aw_front 5 rfl ?_
     refine aw_front 6 rfl ?_
     refine aw_nil ?_
     refine ⟨_, ?_, h + 1, r13, qs4 ++ [(a, (b, (c, d)))], P4 ++ [mkCircle q a b c d], (fillM M (mkCircle q a b c d).want [a.id, b.id, c.id, d.id] F4), by omega, by rw [take_snoc hd, List.map_append, ← List.append_assoc, ← fd1]; rfl, by rw [List.map_append, ← List.append_assoc, ← fd2]; rfl, fullM_snoc' fd3, by rw [List.length_append]; show P4.length + 1 ≤ _; omega, rfl, rfl, rfl⟩
     omega
    have hh2 : ((ways l).drop (i + j + k + 3)).take h = ((ways l).drop (i + j + k + 3)) := List.take_of_length_le (by omega)
    refine ac_seq (ac_reg ?_)
    refine w_ (p_cmp rfl rfl rfl rfl) ?_
    refine aw_nil ?_
    refine ac_seq ?_
    refine ac_f rfl (decide_eq_false (by omega)) ?_
    refine ac_exit ?_
    repeat refine seqQ_exit ?_
    refine blkQ_here ?_
    refine ac_reg ?_
    refine w_ (p_add (r := ((k + 1 : Nat) : Int)) rfl rfl (i64_is (by omega) (by omega)) rfl) ?_
    refine w_ (p_move rfl rfl) ?_
    refine aw_pick [0, 5, 7, 3, 16, 95, 96, 17, 18, 97, 105, 106, 19, 20, 107, 117, 118, 6, 119] rfl ?_
    refine aw_drop 5 rfl ?_
    refine aw_nil ?_
    refine ⟨_, ?_, k + 1, s4, qs4, P4, F4, by omega, by rw [fd1, fc1, pairs_at2 hc, hh2, List.map_append, List.append_assoc, List.map_map]; rfl, fd2, fd3, by omega, rfl, rfl, rfl⟩
    omega
   have hk2 : k = ((ways l).drop (i + j + 2)).length := by omega
   refine ac_seq (ac_reg ?_)
   refine w_ (p_cmp rfl rfl rfl rfl) ?_
   refine aw_nil ?_
   refine ac_seq ?_
   refine ac_f rfl (decide_eq_false (by omega)) ?_
   refine ac_exit ?_
   repeat refine seqQ_exit ?_
   refine blkQ_here ?_
   refine ac_reg ?_
   refine w_ (p_add (r := ((j + 1 : Nat) : Int)) rfl rfl (i64_is (by omega) (by omega)) rfl) ?_
   refine w_ (p_move rfl rfl) ?_
   refine aw_pick [0, 5, 7, 3, 16, 95, 96, 17, 18, 97, 105, 106, 6, 107] rfl ?_
   refine aw_drop 4 rfl ?_
   refine aw_nil ?_
   refine ⟨_, ?_, j + 1, s3, qs3, P3, F3, by omega, by rw [fc1, fb1, tri_at hb, hk2, List.map_append, List.append_assoc, List.map_map]; rfl, fc2, fc3, by omega, rfl, rfl, rfl⟩
   omega
  have hj2 : j = ((ways l).drop (i + 1)).length := by omega
  refine ac_seq (ac_reg ?_)
  refine w_ (p_cmp rfl rfl rfl rfl) ?_
  refine aw_nil ?_
  refine ac_seq ?_
  refine ac_f rfl (decide_eq_false (by omega)) ?_
  refine ac_exit ?_
  repeat refine seqQ_exit ?_
  refine blkQ_here ?_
  refine ac_reg ?_
  refine w_ (p_add (r := ((i + 1 : Nat) : Int)) rfl rfl (i64_is (by omega) (by omega)) rfl) ?_
  refine w_ (p_move rfl rfl) ?_
  refine aw_pick [0, 5, 7, 3, 16, 95, 96, 6, 97] rfl ?_
  refine aw_drop 3 rfl ?_
  refine aw_nil ?_
  refine ⟨_, ?_, i + 1, s2, qs2, P2, F2, by omega, by rw [fb1, fa1, quaK_next _ _ _ ha, hj2]; rfl, fb2, fb3, by omega, rfl, rfl, rfl⟩
  omega
 have hqt : qs1 = quads (ways l) := by rw [fa1, show i = (ways l).length from by omega]; rfl
 have hP : P1 = meshC q l := by rw [fa2, hqt]; rfl
 have hF : F1 = fullM q M (quads (ways l)) := by rw [fa3, hqt]
 have h_F : BoolM F1 := by rw [hF]; exact boolM_full _ _ _
 have hPl : P1.length ≤ 100000 := by omega
 refine ac_seq (ac_reg ?_)
 refine w_ (p_cmp rfl rfl rfl rfl) ?_
 refine aw_nil ?_
 refine ac_seq ?_
 refine ac_f rfl (decide_eq_false (by omega)) ?_
 refine ac_exit ?_
 repeat refine seqQ_exit ?_
 refine blkQ_here ?_
 refine ac_seq (ac_reg ?_)
 refine w_ (p_move rfl rfl) ?_
 refine w_ (p_nilCheck rfl rfl rfl) ?_
 refine w_ (p_fieldOw fa_54_2 rfl rfl) ?_
 refine a_storeOw 3 Tryz.sizeOf52 rfl rfl rfl rfl rfl rfl rfl ?_
 refine aw_ownLeaf 3 13 78 3 rfl rfl rfl ?_
 refine aw_nil ?_
 refine ac_seq (ac_seq (ac_reg ?_))
 refine w_ (p_move rfl rfl) ?_
 refine w_ (p_len (m := ((ways l)).length) Tryz.runUnderlying25 rfl (rlen_pts _) rfl) ?_
 refine w_ (p_move rfl rfl) ?_
 refine aw_nil ?_
 refine ac_block ?_
 refine ac_pick [0, 5, 6, 7, 16, 172, 173, 174] rfl ?_
 refine ac_front 2 rfl ?_
 refine ac_front 4 rfl ?_
 refine ac_front 4 rfl ?_
 refine ac_front 3 rfl ?_
 refine ac_front 4 rfl ?_
 refine ac_loop (fun m L B => ∃ i t1 ts1, i ≤ (ways l).length ∧ ts1 = (triK i (ways l)).filter (isT M F1) ∧ ts1.length ≤ i * 100 ∧ m = (ways l).length - i ∧ L = [(0, .one (.ow g 0)), (5, .one (pts ((ways l)))), (6, .one (.orow s1 7 0 P1.length)), (7, .one (.omap g1)), (16, .one (.omap g7)), (172, .one (pts ((ways l)))), (173, .one (.int .i64 (((((ways l)).length : Nat) : Int)))), (174, .one (.int .i64 (((i : Nat) : Int))))] ∧ B = [.row t1 78 3 (ts1.map trL), .blk g 54 [c0, c1, c2, c3, c4, c5, c6, c7, c8, c9, c10, c11, pts l, .orow t1 3 0 ts1.length], .mpb g7 F1, .mpb g1 M, .row s1 73 7 (P1.map ofCt)]) (m := _) ⟨0, none, [], Nat.zero_le _, rfl, by simp, rfl, rfl, rfl⟩ ?_
 rintro m L B ⟨i, t1, ts1, ga0, ga1, ga2, hm, rfl, rfl⟩
 by_cases h1 : i < (ways l).length
 ·obtain ⟨a, ha⟩ : ∃ a, (ways l)[i]? = some a := ⟨_, List.getElem?_eq_getElem h1⟩
  have hag := hgw a (List.mem_of_getElem? ha)
  have hd1 : ((ways l).drop (i + 1)).length = (ways l).length - (i + 1) := List.length_drop ..
  refine ac_seq (ac_reg ?_)
  refine w_ (p_cmp rfl rfl rfl rfl) ?_
  refine aw_nil ?_
  refine ac_seq ?_
  refine ac_t rfl (decide_eq_true (by omega)) ?_
  refine ac_skip ?_
  refine ac_seq (ac_block (ac_seq (ac_reg ?_)))
  refine w_ (p_move rfl rfl) ?_
  refine w_ (p_index (i) Tryz.runUnderlying25 Tryz.sizeOf35 rfl rfl (rfl) (map_get ha) rfl rfl) ?_
  refine w_ (p_loadSh Tryz.isAgg35 Tryz.sizeOf35 rfl rfl rfl rfl) ?_
  refine a_alloc Tryz.zeroValue35 rfl rfl fun g14 => ?_
  refine w_ (p_assign rfl rfl) ?_
  refine a_storeOw 0 Tryz.sizeOf35 rfl rfl rfl rfl rfl rfl rfl ?_
  refine aw_nil ?_
  refine ac_seq (ac_reg ?_)
  refine w_ (p_move rfl rfl) ?_
  refine w_ (p_move rfl rfl) ?_
  refine w_ (p_add (r := ((i + 1 : Nat) : Int)) rfl rfl (i64_is (by omega) (by omega)) rfl) ?_
  refine w_ (p_sliceLo (i + 1) Tryz.runUnderlying25 Tryz.sizeOf35 rfl rfl rfl (by rw [List.length_map]; omega) (map_w (ways l) (fun _ => rfl)) (l' := ((ways l).drop (i + 1)).map ofPt) (by rw [List.map_drop]) rfl) ?_
  refine w_ (p_len (m := (((ways l).drop (i + 1))).length) Tryz.runUnderlying25 rfl (rlen_pts _) rfl) ?_
  refine w_ (p_move rfl rfl) ?_
  refine aw_nil ?_
  refine ac_block ?_
  refine ac_pick [0, 5, 6, 7, 16, 172, 173, 27, 28, 174, 182, 183, 184] rfl ?_
  refine ac_front 5 rfl ?_
  refine ac_front 5 rfl ?_
  refine ac_front 5 rfl ?_
  refine ac_front 3 rfl ?_
  refine ac_front 5 rfl ?_
  refine ac_front 5 rfl ?_
  refine ac_loop (fun m L B => ∃ j t2 ts2, j ≤ ((ways l).drop (i + 1)).length ∧ ts2 = ts1 ++ ((pairsK j ((ways l).drop (i + 1))).map (fun m => (a, m))).filter (isT M F1) ∧ ts2.length ≤ ts1.length + j * 10 ∧ m = ((ways l).drop (i + 1)).length - j ∧ L = [(0, .one (.ow g 0)), (5, .one (pts ((ways l)))), (6, .one (.orow s1 7 0 P1.length)), (7, .one (.omap g1)), (16, .one (.omap g7)), (172, .one (pts ((ways l)))), (173, .one (.int .i64 (((((ways l)).length : Nat) : Int)))), (27, .one (.int .i64 (((i : Nat) : Int)))), (28, .one (.ow g14 0)), (174, .one (.int .i64 (((i : Nat) : Int)))), (182, .one (pts (((ways l).drop (i + 1))))), (183, .one (.int .i64 ((((((ways l).drop (i + 1))).length : Nat) : Int)))), (184, .one (.int .i64 (((j : Nat) : Int))))] ∧ B = [.row t2 78 3 (ts2.map trL), .blk g 54 [c0, c1, c2, c3, c4, c5, c6, c7, c8, c9, c10, c11, pts l, .orow t2 3 0 ts2.length], .blk g14 35 [pl a.c.x, pl a.c.y, sg a.c.d, mg a.c.d, .int .i64 a.id], .mpb g7 F1, .mpb g1 M, .row s1 73 7 (P1.map ofCt)]) (m := _) ⟨0, t1, ts1, Nat.zero_le _, by simp [pairsK], Nat.le_refl _, rfl, rfl, rfl⟩ ?_
  rintro m L B ⟨j, t2, ts2, gb0, gb1, gb2, hm, rfl, rfl⟩
  by_cases h2 : j < ((ways l).drop (i + 1)).length
  ·obtain ⟨b, hb⟩ : ∃ b, ((ways l).drop (i + 1))[j]? = some b := ⟨_, List.getElem?_eq_getElem h2⟩
   have hbg := hgw b (List.mem_of_mem_drop (List.mem_of_getElem? hb))
   have hd2 : ((ways l).drop (i + j + 2)).length = (ways l).length - (i + j + 2) := List.length_drop ..
   refine ac_seq (ac_reg ?_)
   refine w_ (p_cmp rfl rfl rfl rfl) ?_
   refine aw_nil ?_
   refine ac_seq ?_
   refine ac_t rfl (decide_eq_true (by omega)) ?_
   refine ac_skip ?_
   refine ac_seq (ac_block (ac_seq (ac_reg ?_)))
   refine w_ (p_move rfl rfl) ?_
   refine w_ (p_index (j) Tryz.runUnderlying25 Tryz.sizeOf35 rfl rfl (rfl) (map_get hb) rfl rfl) ?_
   refine w_ (p_loadSh Tryz.isAgg35 Tryz.sizeOf35 rfl rfl rfl rfl) ?_
   refine a_alloc Tryz.zeroValue35 rfl rfl fun g15 => ?_
   refine w_ (p_assign rfl rfl) ?_
   refine a_storeOw 0 Tryz.sizeOf35 rfl rfl rfl rfl rfl rfl rfl ?_
   refine aw_nil ?_
   refine ac_seq (ac_reg ?_)
   refine w_ (p_move rfl rfl) ?_
   refine w_ (p_move rfl rfl) ?_
   refine w_ (p_move rfl rfl) ?_
   refine w_ (p_add (r := ((i + j : Nat) : Int)) rfl rfl (i64_is (by omega) (by omega)) rfl) ?_
   refine w_ (p_add (r := (((i + j) + 2 : Nat) : Int)) rfl rfl (i64_is (by omega) (by omega)) rfl) ?_
   refine w_ (p_sliceLo (i + j + 2) Tryz.runUnderlying25 Tryz.sizeOf35 rfl rfl rfl (by rw [List.length_map]; omega) (map_w (ways l) (fun _ => rfl)) (l' := ((ways l).drop (i + j + 2)).map ofPt) (by rw [List.map_drop]) rfl) ?_
   refine w_ (p_len (m := (((ways l).drop (i + j + 2))).length) Tryz.runUnderlying25 rfl (rlen_pts _) rfl) ?_
   refine w_ (p_move rfl rfl) ?_
   refine aw_nil ?_
   refine ac_block ?_
   refine ac_pick [0, 5, 6, 7, 16, 172, 173, 27, 28, 174, 182, 183, 29, 30, 184, 194, 195, 196] rfl ?_
   refine ac_front 6 rfl ?_
   refine ac_front 6 rfl ?_
   refine ac_front 6 rfl ?_
   refine ac_front 3 rfl ?_
   refine ac_front 6 rfl ?_
   refine ac_front 6 rfl ?_
   refine ac_front 6 rfl ?_
   refine ac_loop (fun m L B => ∃ k t3 ts3, k ≤ ((ways l).drop (i + j + 2)).length ∧ ts3 = ts2 ++ ((((ways l).drop (i + j + 2)).take k).map (fun y => (a, (b, y)))).filter (isT M F1) ∧ ts3.length ≤ ts2.length + k ∧ m = ((ways l).drop (i + j + 2)).length - k ∧ L = [(0, .one (.ow g 0)), (5, .one (pts ((ways l)))), (6, .one (.orow s1 7 0 P1.length)), (7, .one (.omap g1)), (16, .one (.omap g7)), (172, .one (pts ((ways l)))), (173, .one (.int .i64 (((((ways l)).length : Nat) : Int)))), (27, .one (.int .i64 (((i : Nat) : Int)))), (28, .one (.ow g14 0)), (174, .one (.int .i64 (((i : Nat) : Int)))), (182, .one (pts (((ways l).drop (i + 1))))), (183, .one (.int .i64 ((((((ways l).drop (i + 1))).length : Nat) : Int)))), (29, .one (.int .i64 (((j : Nat) : Int)))), (30, .one (.ow g15 0)), (184, .one (.int .i64 (((j : Nat) : Int)))), (194, .one (pts (((ways l).drop (i + j + 2))))), (195, .one (.int .i64 ((((((ways l).drop (i + j + 2))).length : Nat) : Int)))), (196, .one (.int .i64 (((k : Nat) : Int))))] ∧ B = [.row t3 78 3 (ts3.map trL), .blk g 54 [c0, c1, c2, c3, c4, c5, c6, c7, c8, c9, c10, c11, pts l, .orow t3 3 0 ts3.length], .blk g14 35 [pl a.c.x, pl a.c.y, sg a.c.d, mg a.c.d, .int .i64 a.id], .blk g15 35 [pl b.c.x, pl b.c.y, sg b.c.d, mg b.c.d, .int .i64 b.id], .mpb g7 F1, .mpb g1 M, .row s1 73 7 (P1.map ofCt)]) (m := _) ⟨0, t2, ts2, Nat.zero_le _, by simp, Nat.le_refl _, rfl, rfl, rfl⟩ ?_
   rintro m L B ⟨k, t3, ts3, gc0, gc1, gc2, hm, rfl, rfl⟩
   by_cases h3 : k < ((ways l).drop (i + j + 2)).length
   ·obtain ⟨c, hc⟩ : ∃ c, ((ways l).drop (i + j + 2))[k]? = some c := ⟨_, List.getElem?_eq_getElem h3⟩
    have hcg := hgw c (List.mem_of_mem_drop (List.mem_of_getElem? hc))
    by_cases h8 : intM M [a.id, b.id, c.id] = 0
    ·have hT : isT M F1 (a, (b, c)) = false := by simp [isT, key3, h8]
     refine ac_seq (ac_reg ?_)
     refine w_ (p_cmp rfl rfl rfl rfl) ?_
     refine aw_nil ?_
     refine ac_seq ?_
     refine ac_t rfl (decide_eq_true (by omega)) ?_
     refine ac_skip ?_
     refine ac_seq (ac_block (ac_seq (ac_reg ?_)))
     refine w_ (p_index (k) Tryz.runUnderlying25 Tryz.sizeOf35 rfl rfl (rfl) (map_get hc) rfl rfl) ?_
     refine w_ (p_loadSh Tryz.isAgg35 Tryz.sizeOf35 rfl rfl rfl rfl) ?_
     refine a_alloc Tryz.zeroValue35 rfl rfl fun g16 => ?_
     refine a_storeOw 0 Tryz.sizeOf35 rfl rfl rfl rfl rfl rfl rfl ?_
     refine aw_nil ?_
     refine ac_seq (ac_reg ?_)
     refine w_ (p_fieldOw fa_35_1 rfl rfl) ?_
     refine w_ (p_loadOw 3 Tryz.isAgg3 Tryz.sizeOf3 rfl rfl rfl rfl rfl) ?_
     refine w_ (p_fieldOw fa_35_1 rfl rfl) ?_
     refine w_ (p_loadOw 4 Tryz.isAgg3 Tryz.sizeOf3 rfl rfl rfl rfl rfl) ?_
     refine w_ (p_fieldOw fa_35_1 rfl rfl) ?_
     refine w_ (p_loadOw 0 Tryz.isAgg3 Tryz.sizeOf3 rfl rfl rfl rfl rfl) ?_
     refine w_ (p_build (bd_78) rfl rfl rfl rfl) ?_
     refine a_alloc Tryz.zeroValue78 rfl rfl fun g17 => ?_
     refine a_storeOw 0 Tryz.sizeOf78 rfl rfl rfl rfl rfl rfl rfl ?_
     refine aw_nil ?_
     refine ac_seq (ac_reg ?_)
     refine w_ (p_move rfl rfl) ?_
     refine w_ (p_loadOw 0 Tryz.isAgg78 Tryz.sizeOf78 rfl rfl rfl rfl rfl) ?_
     refine w_ (p_lookup (ks := [a.id, b.id, c.id]) (r := .int .i64 ((intM M [a.id, b.id, c.id]))) 7 mapT_89 rfl rfl rfl rfl ((h_M [a.id, b.id, c.id]).1) rfl rfl) ?_
     refine w_ (p_cmp rfl rfl rfl rfl) ?_
     refine w_ (p_move rfl rfl) ?_
     refine w_ (p_gskipU rfl rfl (decide_eq_false (fun h => h h8)) rfl) ?_
     refine w_ (p_gskipU rfl rfl (decide_eq_false (fun h => h h8)) rfl) ?_
     refine w_ (p_gskipU rfl rfl (decide_eq_false (fun h => h h8)) rfl) ?_
     refine w_ (p_gskipU rfl rfl (decide_eq_false (fun h => h h8)) rfl) ?_
     refine w_ (p_pickF rfl (decide_eq_false (fun h => h h8)) rfl rfl) ?_
     refine aw_nil ?_
     refine ac_f rfl (rfl) ?_
     refine ac_skip ?_
     refine ac_reg ?_
     refine w_ (p_add (r := ((k + 1 : Nat) : Int)) rfl rfl (i64_is (by omega) (by omega)) rfl) ?_
     refine w_ (p_move rfl rfl) ?_
     refine aw_pick [0, 5, 6, 7, 16, 172, 173, 27, 28, 174, 182, 183, 29, 30, 184, 194, 195, 196] rfl ?_
     refine aw_drop 0 rfl ?_
     refine aw_drop 0 rfl ?_
     refine aw_nil ?_
     refine ⟨_, ?_, k + 1, t3, ts3, by omega, by rw [take_snoc hc, fm_f (f := fun y => (a, (b, y))) hT]; exact gc1, by omega, rfl, rfl, rfl⟩
     omega
    cases h9 : boolM F1 [a.id, b.id, c.id]
    ·have hT : isT M F1 (a, (b, c)) = true := by simp [isT, key3, h8, h9]
     refine ac_seq (ac_reg ?_)
     refine w_ (p_cmp rfl rfl rfl rfl) ?_
     refine aw_nil ?_
     refine ac_seq ?_
     refine ac_t rfl (decide_eq_true (by omega)) ?_
     refine ac_skip ?_
     refine ac_seq (ac_block (ac_seq (ac_reg ?_)))
     refine w_ (p_index (k) Tryz.runUnderlying25 Tryz.sizeOf35 rfl rfl (rfl) (map_get hc) rfl rfl) ?_
     refine w_ (p_loadSh Tryz.isAgg35 Tryz.sizeOf35 rfl rfl rfl rfl) ?_
     refine a_alloc Tryz.zeroValue35 rfl rfl fun g18 => ?_
     refine a_storeOw 0 Tryz.sizeOf35 rfl rfl rfl rfl rfl rfl rfl ?_
     refine aw_nil ?_
     refine ac_seq (ac_reg ?_)
     refine w_ (p_fieldOw fa_35_1 rfl rfl) ?_
     refine w_ (p_loadOw 3 Tryz.isAgg3 Tryz.sizeOf3 rfl rfl rfl rfl rfl) ?_
     refine w_ (p_fieldOw fa_35_1 rfl rfl) ?_
     refine w_ (p_loadOw 4 Tryz.isAgg3 Tryz.sizeOf3 rfl rfl rfl rfl rfl) ?_
     refine w_ (p_fieldOw fa_35_1 rfl rfl) ?_
     refine w_ (p_loadOw 0 Tryz.isAgg3 Tryz.sizeOf3 rfl rfl rfl rfl rfl) ?_
     refine w_ (p_build (bd_78) rfl rfl rfl rfl) ?_
     refine a_alloc Tryz.zeroValue78 rfl rfl fun g19 => ?_
     refine a_storeOw 0 Tryz.sizeOf78 rfl rfl rfl rfl rfl rfl rfl ?_
     refine aw_nil ?_
     refine ac_seq (ac_reg ?_)
     refine w_ (p_move rfl rfl) ?_
     refine w_ (p_loadOw 0 Tryz.isAgg78 Tryz.sizeOf78 rfl rfl rfl rfl rfl) ?_
     refine w_ (p_lookup (ks := [a.id, b.id, c.id]) (r := .int .i64 ((intM M [a.id, b.id, c.id]))) 7 mapT_89 rfl rfl rfl rfl ((h_M [a.id, b.id, c.id]).1) rfl rfl) ?_
     refine w_ (p_cmp rfl rfl rfl rfl) ?_
     refine w_ (p_move rfl rfl) ?_
     refine w_ ((p_grun rfl rfl (decide_eq_true h8) (p_move rfl rfl))) ?_
     refine w_ ((p_grun rfl rfl (decide_eq_true h8) (p_loadOw 0 Tryz.isAgg78 Tryz.sizeOf78 rfl rfl rfl rfl rfl))) ?_
     refine w_ ((p_grun rfl rfl (decide_eq_true h8) (p_lookup (ks := [a.id, b.id, c.id]) (r := .bool ((boolM F1 [a.id, b.id, c.id]))) 6 mapT_92 rfl rfl rfl rfl (h_F [a.id, b.id, c.id]) rfl rfl))) ?_
     refine w_ ((p_grun rfl rfl (decide_eq_true h8) (p_not rfl rfl))) ?_
     refine w_ (p_pickT rfl (decide_eq_true h8) rfl rfl) ?_
     refine aw_nil ?_
     refine ac_t rfl (by rw [h9]; rfl) ?_
     refine ac_drawM mixed_ 8 [217, 218, 219, 220, 221, 222, 223, 224] [[], [], [1], [2], [3], [], [5], [4, 6]] [.one (.ow g 0), .one (.ow g 0), .one (.ow g 0), .one (.ow g 13), .one (.orow t3 3 0 ts3.length), .agg [.int .i64 a.id, .int .i64 b.id, .int .i64 c.id], .one (.row [[.int .i64 a.id, .int .i64 b.id, .int .i64 c.id]]), .un] 7 (fun u B => ∃ t4, u = .one (.orow t4 3 0 ((ts3 ++ [(a, (b, c))]).length)) ∧ B = [.row t4 78 3 ((ts3 ++ [(a, (b, c))]).map trL), .blk g19 78 [.int .i64 a.id, .int .i64 b.id, .int .i64 c.id], .blk g18 35 [pl c.c.x, pl c.c.y, sg c.c.d, mg c.c.d, .int .i64 c.id], .blk g 54 [c0, c1, c2, c3, c4, c5, c6, c7, c8, c9, c10, c11, pts l, .orow t3 3 0 ts3.length], .blk g14 35 [pl a.c.x, pl a.c.y, sg a.c.d, mg a.c.d, .int .i64 a.id], .blk g15 35 [pl b.c.x, pl b.c.y, sg b.c.d, mg b.c.d, .int .i64 b.id], .mpb g7 F1, .mpb g1 M, .row s1 73 7 (P1.map ofCt)]) rfl rfl rfl rfl ⟨p_move rfl rfl, p_move rfl rfl, p_nilCheck rfl rfl rfl, p_fieldOw fa_54_2 rfl rfl, p_loadOw 3 Tryz.isAgg52 Tryz.sizeOf52 rfl rfl rfl rfl rfl, p_loadOw 0 Tryz.isAgg78 Tryz.sizeOf78 rfl rfl rfl rfl rfl, p_lit Tryz.runUnderlying52 Tryz.sizeOf78 Tryz.zeroValue78 rfl rfl rfl rfl rfl rfl rfl rfl rfl rfl, ?_, trivial⟩ ?_ ?_
     ·refine am_of_aw fun N k_ => ?_
      refine a_append (ls2 := ((ts3 ++ [(a, (b, c))]).map trL)) (m2 := (ts3 ++ [(a, (b, c))]).length) 2 Tryz.runUnderlying52 Tryz.runUnderlying52 Tryz.typeInfo78 rfl rfl Tryz.sizeOf78 Tryz.zeroValue78 rfl rfl rfl rfl rfl rfl rfl (by rw [List.length_map]; exact Nat.le_refl _) (one_w rfl) (one_f rfl) (by show _ + 1 < _; omega) (by rw [List.take_of_length_le (by rw [List.length_map]; exact Nat.le_refl _)]; exact snoc_map trL ts3 (a, (b, c))) (by rw [List.length_append]; rfl) fun r20 => ?_
      exact aw_nil (k_ _ _ ⟨_, rfl, rfl⟩)
     ·rintro u_ B_ ⟨t4, rfl, rfl⟩
      exact ⟨p_move rfl rfl, p_move rfl rfl, p_nilCheck rfl rfl rfl, p_fieldOw fa_54_2 rfl rfl, p_loadOw 3 Tryz.isAgg52 Tryz.sizeOf52 rfl rfl rfl rfl rfl, p_loadOw 1 Tryz.isAgg78 Tryz.sizeOf78 rfl rfl rfl rfl rfl, p_lit Tryz.runUnderlying52 Tryz.sizeOf78 Tryz.zeroValue78 rfl rfl rfl rfl rfl rfl rfl rfl rfl rfl, trivial, trivial⟩
     rintro u_ B_ ⟨t4, rfl, rfl⟩
     refine ⟨_, rfl, ?_⟩
     refine w_ (p_nilCheck rfl rfl rfl) ?_
     refine w_ (p_fieldOw fa_54_2 rfl rfl) ?_
     refine a_storeOw 3 Tryz.sizeOf52 rfl rfl rfl rfl rfl rfl rfl ?_
     refine aw_nil ?_
     refine ac_reg ?_
     refine w_ (p_add (r := ((k + 1 : Nat) : Int)) rfl rfl (i64_is (by omega) (by omega)) rfl) ?_
     refine w_ (p_move rfl rfl) ?_
     refine aw_pick [0, 5, 6, 7, 16, 172, 173, 27, 28, 174, 182, 183, 29, 30, 184, 194, 195, 196] rfl ?_
     refine aw_drop 1 rfl ?_
     refine aw_drop 1 rfl ?_
     refine aw_nil ?_
     refine ⟨_, ?_, k + 1, t4, ts3 ++ [(a, (b, c))], by omega, by rw [take_snoc hc, fm_t (f := fun y => (a, (b, y))) hT, ← gc1], by rw [List.length_append]; show ts3.length + 1 ≤ _; omega, rfl, rfl, rfl⟩
     omega
    have hT : isT M F1 (a, (b, c)) = false := by simp [isT, key3, h8, h9]
    refine ac_seq (ac_reg ?_)
    refine w_ (p_cmp rfl rfl rfl rfl) ?_
    refine aw_nil ?_
    refine ac_seq ?_
    refine ac_t rfl (decide_eq_true (by omega)) ?_
    refine ac_skip ?_
    refine ac_seq (ac_block (ac_seq (ac_reg ?_)))
    refine w_ (p_index (k) Tryz.runUnderlying25 Tryz.sizeOf35 rfl rfl (rfl) (map_get hc) rfl rfl) ?_
    refine w_ (p_loadSh Tryz.isAgg35 Tryz.sizeOf35 rfl rfl rfl rfl) ?_
    refine a_alloc Tryz.zeroValue35 rfl rfl fun g21 => ?_
    refine a_storeOw 0 Tryz.sizeOf35 rfl rfl rfl rfl rfl rfl rfl ?_
    refine aw_nil ?_
    refine ac_seq (ac_reg ?_)
    refine w_ (p_fieldOw fa_35_1 rfl rfl) ?_
    refine w_ (p_loadOw 3 Tryz.isAgg3 Tryz.sizeOf3 rfl rfl rfl rfl rfl) ?_
    refine w_ (p_fieldOw fa_35_1 rfl rfl) ?_
    refine w_ (p_loadOw 4 Tryz.isAgg3 Tryz.sizeOf3 rfl rfl rfl rfl rfl) ?_
    refine w_ (p_fieldOw fa_35_1 rfl rfl) ?_
    refine w_ (p_loadOw 0 Tryz.isAgg3 Tryz.sizeOf3 rfl rfl rfl rfl rfl) ?_
    refine w_ (p_build (bd_78) rfl rfl rfl rfl) ?_
    refine a_alloc Tryz.zeroValue78 rfl rfl fun g22 => ?_
    refine a_storeOw 0 Tryz.sizeOf78 rfl rfl rfl rfl rfl rfl rfl ?_
    refine aw_nil ?_
    refine ac_seq (ac_reg ?_)
    refine w_ (p_move rfl rfl) ?_
    refine w_ (p_loadOw 0 Tryz.isAgg78 Tryz.sizeOf78 rfl rfl rfl rfl rfl) ?_
    refine w_ (p_lookup (ks := [a.id, b.id, c.id]) (r := .int .i64 ((intM M [a.id, b.id, c.id]))) 7 mapT_89 rfl rfl rfl rfl ((h_M [a.id, b.id, c.id]).1) rfl rfl) ?_
    refine w_ (p_cmp rfl rfl rfl rfl) ?_
    refine w_ (p_move rfl rfl) ?_
    refine w_ ((p_grun rfl rfl (decide_eq_true h8) (p_move rfl rfl))) ?_
    refine w_ ((p_grun rfl rfl (decide_eq_true h8) (p_loadOw 0 Tryz.isAgg78 Tryz.sizeOf78 rfl rfl rfl rfl rfl))) ?_
    refine w_ ((p_grun rfl rfl (decide_eq_true h8) (p_lookup (ks := [a.id, b.id, c.id]) (r := .bool ((boolM F1 [a.id, b.id, c.id]))) 6 mapT_92 rfl rfl rfl rfl (h_F [a.id, b.id, c.id]) rfl rfl))) ?_
    refine w_ ((p_grun rfl rfl (decide_eq_true h8) (p_not rfl rfl))) ?_
    refine w_ (p_pickT rfl (decide_eq_true h8) rfl rfl) ?_
    refine aw_nil ?_
    refine ac_f rfl (by rw [h9]; rfl) ?_
    refine ac_skip ?_
    refine ac_reg ?_
    refine w_ (p_add (r := ((k + 1 : Nat) : Int)) rfl rfl (i64_is (by omega) (by omega)) rfl) ?_
    refine w_ (p_move rfl rfl) ?_
    refine aw_pick [0, 5, 6, 7, 16, 172, 173, 27, 28, 174, 182, 183, 29, 30, 184, 194, 195, 196] rfl ?_
    refine aw_drop 0 rfl ?_
    refine aw_drop 0 rfl ?_
    refine aw_nil ?_
    refine ⟨_, ?_, k + 1, t3, ts3, by omega, by rw [take_snoc hc, fm_f (f := fun y => (a, (b, y))) hT]; exact gc1, by omega, rfl, rfl, rfl⟩
    omega
   have hk2 : ((ways l).drop (i + j + 2)).take k = ((ways l).drop (i + j + 2)) := List.take_of_length_le (by omega)
   refine ac_seq (ac_reg ?_)
   refine w_ (p_cmp rfl rfl rfl rfl) ?_
   refine aw_nil ?_
   refine ac_seq ?_
   refine ac_f rfl (decide_eq_false (by omega)) ?_
   refine ac_exit ?_
   repeat refine seqQ_exit ?_
   refine blkQ_here ?_
   refine ac_reg ?_
   refine w_ (p_add (r := ((j + 1 : Nat) : Int)) rfl rfl (i64_is (by omega) (by omega)) rfl) ?_
   refine w_ (p_move rfl rfl) ?_
   refine aw_pick [0, 5, 6, 7, 16, 172, 173, 27, 28, 174, 182, 183, 184] rfl ?_
   refine aw_drop 3 rfl ?_
   refine aw_nil ?_
   refine ⟨_, ?_, j + 1, t3, ts3, by omega, by rw [gc1, gb1, pairs_at hb, hk2, List.map_append, List.filter_append, List.append_assoc, List.map_map]; rfl, by omega, rfl, rfl, rfl⟩
   omega
  have hj2 : j = ((ways l).drop (i + 1)).length := by omega
  refine ac_seq (ac_reg ?_)
  refine w_ (p_cmp rfl rfl rfl rfl) ?_
  refine aw_nil ?_
  refine ac_seq ?_
  refine ac_f rfl (decide_eq_false (by omega)) ?_
  refine ac_exit ?_
  repeat refine seqQ_exit ?_
  refine blkQ_here ?_
  refine ac_reg ?_
  refine w_ (p_add (r := ((i + 1 : Nat) : Int)) rfl rfl (i64_is (by omega) (by omega)) rfl) ?_
  refine w_ (p_move rfl rfl) ?_
  refine aw_pick [0, 5, 6, 7, 16, 172, 173, 174] rfl ?_
  refine aw_drop 2 rfl ?_
  refine aw_nil ?_
  refine ⟨_, ?_, i + 1, t2, ts2, by omega, by rw [gb1, ga1, triK_next _ _ _ ha, hj2, List.filter_append]; rfl, by omega, rfl, rfl, rfl⟩
  omega
 have hts : ts1 = meshT q l := by rw [ga1, show i = (ways l).length from by omega, hF, hM]; rfl
 have htl := meshT_len q l hn
 refine ac_pubLeaf 0 0 13 rfl rfl rfl rfl (by rw [List.length_map]) (by rw [List.length_map, hts]; omega) ?_
 refine ac_seq (ac_reg ?_)
 refine w_ (p_cmp rfl rfl rfl rfl) ?_
 refine aw_nil ?_
 refine ac_seq ?_
 refine ac_f rfl (decide_eq_false (by omega)) ?_
 refine ac_exit ?_
 repeat refine seqQ_exit ?_
 refine blkQ_here ?_
 refine ac_seq (ac_reg ?_)
 refine w_ (p_move rfl rfl) ?_
 refine w_ (p_assign rfl rfl) ?_
 refine aw_nil ?_
 refine ac_pub (L2 := _) 3 [4] rfl (allAre1 rfl) (by rw [List.length_map]) (by rw [List.length_map]; omega) rfl ?_
 refine ac_slotEq 4 (y := .one (cts (meshC q l))) rfl (by rw [hP]; rfl) ?_
 refine ac_ret ?_
 exact ⟨_, [1, 1], _, rvs_1 Tryz.results16 (rv_tmp rfl rfl), rfl, ⟨rfl, by rw [hts]; rfl⟩⟩
set_option maxRecDepth 20000 in
theorem d_delaunay_New {b1 b2 : Bool} {l1 l2 : List Nat} {n d : Int} {zs : List (List LV)} {qs : List Pt} (h1 : IsInt (.bool b1) (u32r l1) n) (h2 : IsInt (.bool b2) (u32r l2) d) (hn : isz n ≤ 4294967295) (hd : isz d ≤ 4294967295) (hq : Qb (ratOf n d)) (hz : IsPts 4294967294 1073741824 zs qs) (hg : GoodP qs) (hl : qs.length ≤ 6) (he : (newL [] qs).2 = 0) : DoesB Tryz.prog 6 [.agg [.bool b1, u32r l1, .bool b2, u32r l2], .one (.row zs)] [] fun R B => ∃ g, R = .tup [.one (.ow g 0), .one (.int .i64 0)] ∧ B = [.blk g 54 [.bool true, pl ([-((ratOf n d)).num, (((ratOf n d)).den : Int)]), sg ((((ratOf n d))).num), mg ((((ratOf n d))).num), sg (((((ratOf n d))).den : Int)), mg (((((ratOf n d))).den : Int)), sg ((((ratOf n d))).num), mg ((((ratOf n d))).num), sg (((((ratOf n d))).den : Int)), mg (((((ratOf n d))).den : Int)), wts ((sortC (meshC ((ratOf n d)) ((newL [] qs).1)))), .int .i64 0, pts ((newL [] qs).1), tris ((meshT ((ratOf n d)) ((newL [] qs).1)))]] := by
 refine does_ (n := 32) Tryz.func6 rfl Tryz.ntmps6 rfl ?_
 have hgl : GoodP (newL [] qs).1 := fun a ha => hg a ((newL_mem qs [] ha).resolve_right (by simp))
 have hln := newL_len qs
 have hcl := meshC_le ((ratOf n d)) ((newL [] qs).1) (by omega)
 skip
 refine ac_seq (ac_reg ?_)
 refine w_ (p_boxS rfl rfl rfl rfl) ?_
 refine w_ (p_assign rfl rfl) ?_
 refine w_ (p_assign rfl rfl) ?_
 refine aw_nil ?_
 refine ac_seq (ac_reg ?_)
 refine w_ (p_move rfl rfl) ?_
 refine w_ (p_call Tryz.func13 rfl rfl rfl rfl (d_crowd_New hz hl) rfl) ?_
 refine w_ (p_move rfl rfl) ?_
 refine w_ (p_extract rfl rfl rfl) ?_
 refine w_ (p_extract rfl rfl rfl) ?_
 refine a_alloc Tryz.zeroValue51 rfl rfl fun g1 => ?_
 refine a_storeOw 0 Tryz.sizeOf51 rfl rfl rfl rfl rfl rfl rfl ?_
 refine w_ (p_assign rfl rfl) ?_
 refine aw_nil ?_
 refine ac_seq (ac_seq (ac_reg ?_))
 refine w_ (p_move rfl rfl) ?_
 refine w_ (p_cmp rfl rfl rfl rfl) ?_
 refine aw_nil ?_
 refine ac_f rfl (decide_eq_false (fun h => h he)) ?_
 refine ac_skip ?_
 refine ac_seq (ac_reg ?_)
 refine w_ (p_loadOw 0 Tryz.isAgg51 Tryz.sizeOf51 rfl rfl rfl rfl rfl) ?_
 refine w_ (p_build (bd_54) rfl rfl rfl rfl) ?_
 refine a_box rfl rfl rfl fun g2 => ?_
 refine w_ (p_assign rfl rfl) ?_
 refine aw_nil ?_
 refine ac_seq (ac_reg ?_)
 refine w_ (p_loadSh Tryz.isAgg41 Tryz.sizeOf41 rfl rfl rfl rfl) ?_
 refine w_ (p_call Tryz.func14 rfl rfl rfl rfl (d_alg_Of h1 h2 hn hd (hq.mono (by omega))) rfl) ?_
 refine a_alloc Tryz.zeroValue44 rfl rfl fun g3 => ?_
 refine a_storeOw 0 Tryz.sizeOf44 rfl rfl rfl rfl rfl rfl rfl ?_
 refine aw_nil ?_
 refine ac_seq ?_
 refine ac_drawM mixed_ 7 [23, 24, 25, 26, 27, 28, 29] [[], [0], [1], [], [], [], [4, 5]] [.one (.ow g2 0), .one (.ow g2 0), .one (.ow g2 0), .agg [pl ([-((ratOf n d)).num, (((ratOf n d)).den : Int)]), sg ((((ratOf n d))).num), mg ((((ratOf n d))).num), sg (((((ratOf n d))).den : Int)), mg (((((ratOf n d))).den : Int)), sg ((((ratOf n d))).num), mg ((((ratOf n d))).num), sg (((((ratOf n d))).den : Int)), mg (((((ratOf n d))).den : Int))], .one (.ow g2 0), .agg [pl ([-((ratOf n d)).num, (((ratOf n d)).den : Int)]), sg ((((ratOf n d))).num), mg ((((ratOf n d))).num), sg (((((ratOf n d))).den : Int)), mg (((((ratOf n d))).den : Int)), sg ((((ratOf n d))).num), mg ((((ratOf n d))).num), sg (((((ratOf n d))).den : Int)), mg (((((ratOf n d))).den : Int))], .un] 6 (fun u B => u = .one (cts ((meshC ((ratOf n d)) ((newL [] qs).1)))) ∧ B = [.blk g2 54 [.bool false, .nils, .bool false, .nils, .bool false, .nils, .bool false, .nils, .bool false, .nils, .nils, .int .i64 0, pts ((newL [] qs).1), tris ((meshT ((ratOf n d)) ((newL [] qs).1)))], .blk g3 44 [pl ([-((ratOf n d)).num, (((ratOf n d)).den : Int)]), sg ((((ratOf n d))).num), mg ((((ratOf n d))).num), sg (((((ratOf n d))).den : Int)), mg (((((ratOf n d))).den : Int)), sg ((((ratOf n d))).num), mg ((((ratOf n d))).num), sg (((((ratOf n d))).den : Int)), mg (((((ratOf n d))).den : Int))], .blk g1 51 [pts ((newL [] qs).1)]]) rfl rfl rfl rfl ⟨p_move rfl rfl, p_nilCheck rfl rfl rfl, p_fieldOw fa_54_0 rfl rfl, p_loadOw 0 Tryz.isAgg44 Tryz.sizeOf44 rfl rfl rfl rfl rfl, p_move rfl rfl, p_loadOw 0 Tryz.isAgg44 Tryz.sizeOf44 rfl rfl rfl rfl rfl, ?_, trivial⟩ ?_ ?_
 ·refine am_of_aw fun N k_ => ?_
  refine aw_front 1 rfl ?_
  refine a_calls (Bin := [.blk g2 54 [.bool false, .nils, .bool false, .nils, .bool false, .nils, .bool false, .nils, .bool false, .nils, .nils, .int .i64 0, pts ((newL [] qs).1), .nils]]) Tryz.func16 rfl rfl rfl rfl (d_delaunay_build hq hgl (by omega)) rfl fun r_ B_ hr_ => ?_
  obtain ⟨rfl, rfl⟩ := hr_
  exact aw_nil (k_ _ _ ⟨rfl, rfl⟩)
 ·rintro u_ B_ ⟨rfl, rfl⟩
  exact ⟨p_move rfl rfl, p_nilCheck rfl rfl rfl, p_fieldOw fa_54_0 rfl rfl, p_loadOw 1 Tryz.isAgg44 Tryz.sizeOf44 rfl rfl rfl rfl rfl, p_move rfl rfl, p_loadOw 1 Tryz.isAgg44 Tryz.sizeOf44 rfl rfl rfl rfl rfl, trivial, trivial⟩
 rintro u_ B_ ⟨rfl, rfl⟩
 refine ⟨_, rfl, ?_⟩
 refine aw_blk (ys := [.bool false, .row ([]), .bool false, .row ([]), .bool false, .row ([]), .bool false, .row ([]), .bool false, .row ([]), wts ([]), .int .i64 0, pts ((newL [] qs).1), tris ((meshT ((ratOf n d)) ((newL [] qs).1)))]) 0 rfl rfl rfl ?_
 refine a_calls (Bin := [.blk g2 54 [.bool false, .row ([]), .bool false, .row ([]), .bool false, .row ([]), .bool false, .row ([]), .bool false, .row ([]), wts ([]), .int .i64 0, pts ((newL [] qs).1), tris ((meshT ((ratOf n d)) ((newL [] qs).1)))]]) Tryz.func15 rfl rfl rfl rfl (d_kin_BeginF (ws := []) (by simp) (meshC_pb _ hgl) (by omega) (hq.mono (by omega))) rfl fun r_ B_ hr_ => ?_
 obtain ⟨rfl, rfl⟩ := hr_
 refine aw_nil ?_
 refine ac_seq (ac_reg ?_)
 refine w_ (p_move rfl rfl) ?_
 refine w_ (p_assign rfl rfl) ?_
 refine w_ (p_assign rfl rfl) ?_
 refine aw_nil ?_
 refine ac_ret ?_
 exact ⟨_, [1, 1], _, rvs_2 Tryz.results6 (rv_tmp rfl rfl) (rv_tmp rfl rfl), rfl, _, rfl, rfl⟩
end Orr

namespace Orr
open Go Go.Proofs
variable (Ob : Nat → Prop) (W : World)
set_option maxHeartbeats 1000000 in
theorem whole_Abs (hO : ∀ b, Ob b → b < W.heap.size) {b0 : Bool} {A0 : Option Addr} {n0 c0 : Nat} {z0 : Int} (hx0 : Rel.intA.at_ W Ob [.bool b0, .slice A0 n0 c0] z0) (hs0 : isz z0 ≤ 4294967295) :
    Calls Tryz.prog 143 #[.agg #[.bool b0, .slice A0 n0 c0]] W (Ret W Ob (Rel.intN.aggF (z0.natAbs : Int))) := by
  obtain ⟨hx1, hz0⟩ := intA_open hx0
  have hs0' : sz z0.natAbs ≤ 4294967295 := hs0
  refine enter (vs := [(.agg #[(.bool b0), (.slice A0 n0 c0)])]) (Ob := Ob) (K := fun b => b < W.heap.size) (Fs := [(Rel.intA).fact [(.bool b0), (.slice A0 n0 c0)] (z0), (Rel.natA).fact [(.slice A0 n0 c0)] (z0.natAbs)]) Tryz.func143 rfl Tryz.ntmps143 rfl (fun _ h => h) hO (by simp only [List.mem_cons, List.not_mem_nil, or_false, forall_eq_or_imp, forall_eq, false_imp_iff, implies_true]; exact ⟨hx0, hx1⟩) fun a h => ?_
  refine seq_ (reg_ ?_)
  refine st_box h rfl rfl fun g1 w a h => ?_
  refine st_alloc h Tryz.zeroValue30 rfl fun g2 w a h => ?_
  refine wpList_nil ?_
  refine seq_ (reg_ ?_)
  refine st_fieldAddr h rfl (fa_30_1) rfl fun a h => ?_
  refine st_loadO h 1 rfl rfl Tryz.isAgg28 rfl rfl fun a h => ?_
  refine st_call h Tryz.func40 rfl rfl rfl (limb_Norm _ _ (fun b => h.owns_lt) (h.fact 1 rfl) (by omega)) rfl fun r w a hg hF h => ?_
  obtain ⟨A3, n4, c5, e7, f6⟩ := hF
  subst e7
  have h := h.add (f := (Rel.natN).fact [(.slice A3 n4 c5)] (z0.natAbs)) f6
  refine st_call h Tryz.func39 rfl rfl rfl (whole_made _ _ (fun b => h.owns_lt) (h.fact 0 rfl)) rfl fun r w a hg hF h => ?_
  obtain ⟨cs8, e10, f9⟩ := hF
  obtain ⟨b11, A12, n13, c14, rfl⟩ := intN_shape f9
  subst e10
  have h := h.add (f := (Rel.intN).fact [(.bool b11), (.slice A12 n13 c14)] (ofSign false (z0.natAbs))) f9
  refine st_store h 0 rfl rfl rfl Tryz.sizeOf30 rfl rfl rfl rfl fun w h => ?_
  refine wpList_nil ?_
  refine wp_ret ?_
  exact ret1 Tryz.results143 h (resv_agg h 0 rfl rfl Tryz.isAgg30 Tryz.sizeOf30 rfl) ⟨_, rfl, h.grow0, _, rfl, (by rw [show (z0.natAbs : Int) = ofSign false (z0.natAbs) from by simp [ofSign]]; exact h.out 0 rfl)⟩
theorem d_whole_Abs {x y : LV} {z : Int} (hi : IsInt x y z) (hs1 : isz z ≤ 4294967295) : Does Tryz.prog 143 [.agg [x, y]] (.agg (ofI (z.natAbs : Int))) :=
  does_int1 hi fun Ob W b A n c hO h => ⟨_, whole_Abs Ob W hO h hs1, fun w v => aggF_a v⟩
end Orr

namespace Orr
def kst (z : Int) : List Int := trim [z]
theorem kst_eq (z : Int) : kst z = if z = 0 then [] else [z] := by
  unfold kst
  by_cases h : z = 0 <;> simp [trim, h]
theorem kst_len (z : Int) : (kst z).length = 0 ↔ z = 0 := by
  rw [kst_eq]; split <;> simp_all
theorem kst_le (z : Int) : (kst z).length ≤ 1 := by
  rw [kst_eq]; split <;> simp
theorem kst_inj {a b : Int} (h : kst a = kst b) : a = b := by
  rw [kst_eq, kst_eq] at h
  split at h <;> split at h <;> simp_all
theorem kst_get (z : Int) : (kst z).getD 0 0 = z := by
  rw [kst_eq]; split <;> simp_all
theorem each_kst {n : Nat} {g : Nat → Int} (hn : n ≤ 1) (h : n = 0 → g 0 = 0) : each n g = kst (g 0) := by
  rcases n with _ | _ | n
  · rw [h rfl]; rfl
  · rfl
  · omega
theorem padd_kst (a b : Int) : padd (kst a) (kst b) = kst (a + b) := by
  unfold padd
  have h1 := kst_le a; have h2 := kst_le b
  rw [each_kst (by omega) ?_, kst_get, kst_get]
  intro h
  have h3 := (kst_len a).1 (by omega); have h4 := (kst_len b).1 (by omega)
  simp only [kst_get]; omega
theorem psub_kst (a b : Int) : psub (kst a) (kst b) = kst (a - b) := by
  unfold psub
  have h1 := kst_le a; have h2 := kst_le b
  rw [each_kst (by omega) ?_, kst_get, kst_get]
  intro h
  have h3 := (kst_len a).1 (by omega); have h4 := (kst_len b).1 (by omega)
  simp only [kst_get]; omega
theorem pscale_kst (a c : Int) : pscale (kst a) c = kst (a * c) := by
  unfold pscale
  rw [each_kst (kst_le a) ?_, kst_get]
  intro h
  rw [kst_get, (kst_len a).1 h]; omega
theorem pmul_kst (a b : Int) : pmul (kst a) (kst b) = kst (a * b) := by
  unfold pmul
  by_cases ha : a = 0
  · subst ha; simp [kst_eq]
  by_cases hb : b = 0
  · subst hb; simp [kst_eq]
  · rw [kst_eq a, kst_eq b, if_neg ha, if_neg hb]
    simp [muli, mulk, kst]
theorem step_add (a u v : Int) : (if (kst a).length = 0 then kst u else padd (kst u) (pmul (kst a) (kst v))) = kst (u + a * v) := by
  split
  · rename_i h; rw [(kst_len a).1 h]; congr 1; omega
  · rw [pmul_kst, padd_kst]
theorem step_sub (a u v : Int) : (if (kst a).length = 0 then kst u else psub (kst u) (pmul (kst a) (kst v))) = kst (u - a * v) := by
  split
  · rename_i h; rw [(kst_len a).1 h]; congr 1; omega
  · rw [pmul_kst, psub_kst]
def idetK (f : List (List Int) → Int) (M : List (List Int)) : Nat → Int
  | 0 => 0
  | i + 1 => if i % 2 = 0 then idetK f M i + (M.getD i []).getD 0 0 * f ((M.eraseIdx i).map (·.drop 1)) else idetK f M i - (M.getD i []).getD 0 0 * f ((M.eraseIdx i).map (·.drop 1))
def idet : Nat → List (List Int) → Int
  | 0, _ => 1
  | n + 1, M => idetK (idet n) M (n + 1)
def csts (M : List (List Int)) : List (List (List Int)) := M.map fun r => r.map kst
theorem erase_map {α β : Type} (f : α → β) : ∀ (l : List α) (i : Nat), (l.map f).eraseIdx i = (l.eraseIdx i).map f
  | [], _ => rfl
  | _ :: _, 0 => rfl
  | x :: l, i + 1 => by simp [erase_map f l i]
theorem csts_minor (M : List (List Int)) (i : Nat) : minor0 i (csts M) = csts ((M.eraseIdx i).map (·.drop 1)) := by
  unfold minor0 csts
  rw [erase_map, List.map_map, List.map_map]
  simp only [Function.comp_def, List.map_drop]
theorem csts_get {M : List (List Int)} {i : Nat} (hi : i < M.length) (hr : ∀ r ∈ M, 0 < r.length) : ((csts M).getD i []).getD 0 [] = kst ((M.getD i []).getD 0 0) := by
  have h0 := hr M[i] (List.getElem_mem hi)
  simp [csts, hi, h0]
theorem detK_kst {f : List (List (List Int)) → List Int} {g : List (List Int) → Int} {M : List (List Int)} (hr : ∀ r ∈ M, 0 < r.length) (hf : ∀ i, i < M.length → f (minor0 i (csts M)) = kst (g ((M.eraseIdx i).map (·.drop 1)))) : ∀ i, i ≤ M.length → detK f (csts M) i = kst (idetK g M i)
  | 0, _ => rfl
  | i + 1, h => by
    simp only [detK, idetK]
    rw [csts_get (by omega) hr, detK_kst hr hf i (by omega), hf i (by omega)]
    by_cases h2 : i % 2 = 0
    · simp only [if_pos h2]; exact step_add _ _ _
    · simp only [if_neg h2]; exact step_sub _ _ _
theorem det_kst : ∀ (n : Nat) (M : List (List Int)), M.length = n → (∀ r ∈ M, r.length = n) → det n (csts M) = kst (idet n M)
  | 0, M, _, _ => rfl
  | n + 1, M, hM, hr => by
    simp only [det, idet]
    refine detK_kst (fun r h => by rw [hr r h]; omega) (fun i hi => ?_) _ (by omega)
    rw [csts_minor]
    refine det_kst n _ (by rw [List.length_map, List.length_eraseIdx, if_pos hi]; omega) fun r h => ?_
    obtain ⟨s, hs, rfl⟩ := List.mem_map.1 h
    rw [List.length_drop, hr s (List.mem_of_mem_eraseIdx hs)]; omega
theorem still_eq (x y : Int) : still x y = ⟨kst x, kst y, 1⟩ := by
  have h1 : (Crv.mk (trim [x]) (trim [y]) 0).g = 1 := by
    have h : ((gcdL (1 :: (trim (trim [x]) ++ trim (trim [y]))) : Nat) : Int) ∣ 1 := gcdL_dvd 1 (List.mem_cons_self ..)
    have h2 : gcdL (1 :: (trim (trim [x]) ++ trim (trim [y]))) = 1 := Nat.dvd_one.1 (Int.natCast_dvd_natCast.1 h)
    have h3 : Crv.d' (Crv.mk (trim [x]) (trim [y]) 0) = 1 := rfl
    unfold Crv.g
    rw [h3, if_neg (by omega)]
    show ((gcdL (1 :: (trim (trim [x]) ++ trim (trim [y]))) : Nat) : Int) = 1
    rw [h2]; rfl
  have h4 : ∀ z : Int, trim ((trim (trim [z])).map (· / 1)) = kst z := fun z => by
    simp only [Int.ediv_one, List.map_id_fun', id_eq]
    rw [trim_trim, trim_trim]; rfl
  unfold still Crv.norm
  rw [h1]
  show Crv.mk (trim ((trim (trim [x])).map (· / 1))) (trim ((trim (trim [y])).map (· / 1))) (1 / 1) = _
  rw [h4, h4]; rfl
theorem orient_still (x1 y1 x2 y2 x3 y3 : Int) : porient (still x1 y1) (still x2 y2) (still x3 y3) = kst ((x2 - x1) * (y3 - y1) - (x3 - x1) * (y2 - y1)) := by
  rw [still_eq, still_eq, still_eq]
  have h := det_kst 3 [[x1, y1, 1], [x2, y2, 1], [x3, y3, 1]] rfl (by intro r hr; simp at hr; rcases hr with rfl | rfl | rfl <;> rfl)
  have e : porient ⟨kst x1, kst y1, 1⟩ ⟨kst x2, kst y2, 1⟩ ⟨kst x3, kst y3, 1⟩ = det 3 (csts [[x1, y1, 1], [x2, y2, 1], [x3, y3, 1]]) := rfl
  rw [e, h]
  congr 1
  simp [idet, idetK]
  grind
theorem circle_still (x1 y1 x2 y2 x3 y3 x4 y4 : Int) : pcircle (still x1 y1) (still x2 y2) (still x3 y3) (still x4 y4) = kst (idet 4 [[x1, y1, x1 * x1 + y1 * y1, 1], [x2, y2, x2 * x2 + y2 * y2, 1], [x3, y3, x3 * x3 + y3 * y3, 1], [x4, y4, x4 * x4 + y4 * y4, 1]]) := by
  rw [still_eq, still_eq, still_eq, still_eq]
  rw [← det_kst 4 _ rfl (by intro r hr; simp at hr; rcases hr with rfl | rfl | rfl | rfl <;> rfl)]
  simp only [pcircle, orow4, pscale_kst, pmul_kst, padd_kst, Int.mul_one]
  rfl
theorem germ_kst (z : Int) (q : Rat) : germAt (kst z) q = cmpZ z 0 := by
  rw [kst_eq]
  by_cases h : z = 0
  · rw [if_pos h, h]; rfl
  · rw [if_neg h]
    have h1 : psign [z] q = cmpZ z 0 := by
      unfold psign
      have : pval [z] q.num q.den = z := by simp [pval, valk]
      rw [this]
    have h2 : cmpZ z 0 ≠ 0 := by
      unfold cmpZ; split
      · omega
      · split <;> omega
    show gfirst (fun p => psign p q) 1 [z] = _
    simp only [gfirst, List.length_singleton]
    rw [if_neg (by omega), if_neg (show ¬ psign [z] q = 0 by rw [h1]; exact h2)]
    exact h1
theorem cmpZ_zero {z : Int} (h : z = 0) : cmpZ z 0 = 0 := by subst h; rfl
theorem cmpZ_ne {z : Int} (h : z ≠ 0) : cmpZ z 0 ≠ 0 := by
  unfold cmpZ; split
  · omega
  · split <;> omega
theorem fill_none (T : Ents) (n : List Int) (F : Ents) : fillM T 0 n F = F := by simp [fillM, fillS]
theorem full_none {q : Rat} {T : Ents} : ∀ {ps : List P4} {F : Ents}, (∀ m ∈ ps, (cirC q m).want = 0) → ps.foldl (fun F m => fillM T (cirC q m).want (key4 m) F) F = F
  | [], F, _ => rfl
  | m :: ps, F, h => by
    rw [List.foldl_cons, h m (List.mem_cons_self ..), fill_none]
    exact full_none fun m hm => h m (List.mem_cons_of_mem _ hm)
theorem intM_put' (M : Ents) (k : List Int) (n : Int) (k' : List Int) : intM (putM M k (.int .i64 n)) k' = if k' = k then n else intM M k' := by
  unfold intM
  rw [getM_putM]
  by_cases e : k' = k
  · rw [if_pos e, if_pos e]
  · rw [if_neg e, if_neg e]
theorem turn_fold {q : Rat} (P : List Int → Int → Prop) : ∀ (ps : List P3) (M : Ents), (∀ k, P k (intM M k)) → (∀ m ∈ ps, P (key3 m) (oriC q m).want) → ∀ k, P k (intM (ps.foldl (fun M m => putM M (key3 m) (.int .i64 (oriC q m).want)) M) k)
  | [], M, h, _, k => h k
  | m :: ps, M, h, hp, k => by
    rw [List.foldl_cons]
    refine turn_fold P ps _ (fun k => ?_) (fun m hm => hp m (List.mem_cons_of_mem _ hm)) k
    rw [intM_put']
    split
    · rename_i e; rw [e]; exact hp m (List.mem_cons_self ..)
    · exact h k
theorem turn_none {q : Rat} {ps : List P3} (h : ∀ m ∈ ps, (oriC q m).want = 0) (k : List Int) : intM (turnM q ps) k = 0 :=
  turn_fold (fun _ n => n = 0) ps [] (fun _ => rfl) h k
theorem turn_keep {q : Rat} : ∀ (ps : List P3) (M : Ents) (k : List Int), (∀ m ∈ ps, (oriC q m).want ≠ 0) → (intM M k ≠ 0 ∨ ∃ m ∈ ps, key3 m = k) → intM (ps.foldl (fun M m => putM M (key3 m) (.int .i64 (oriC q m).want)) M) k ≠ 0
  | [], M, k, _, hk => by
    rcases hk with hk | ⟨m, hm, _⟩
    · exact hk
    · cases hm
  | m :: ps, M, k, h, hk => by
    rw [List.foldl_cons]
    refine turn_keep ps _ k (fun m hm => h m (List.mem_cons_of_mem _ hm)) ?_
    rw [intM_put']
    by_cases e : k = key3 m
    · rw [if_pos e]; exact .inl (h m (List.mem_cons_self ..))
    · rw [if_neg e]
      rcases hk with hk | ⟨m2, hm2, h2⟩
      · exact .inl hk
      · rcases List.mem_cons.1 hm2 with rfl | hm2
        · exact absurd h2.symm e
        · exact .inr ⟨m2, hm2, h2⟩
theorem mesh_all {q : Rat} {l : List Pt} (h3 : ∀ m ∈ triples (ways l), (oriC q m).want ≠ 0) (h4 : ∀ m ∈ quads (ways l), (cirC q m).want = 0) : meshT q l = triples (ways l) := by
  unfold meshT
  rw [List.filter_eq_self]
  intro m hm
  have h1 : fullM q (turnM q (triples (ways l))) (quads (ways l)) = [] := full_none h4
  have h2 := turn_keep (triples (ways l)) [] (key3 m) h3 (.inr ⟨m, hm, rfl⟩)
  rw [h1]
  simp only [isT, Bool.and_eq_true, decide_eq_true_eq]
  exact ⟨h2, rfl⟩
theorem mesh_none {q : Rat} {l : List Pt} (h3 : ∀ m ∈ triples (ways l), (oriC q m).want = 0) : meshT q l = [] := by
  unfold meshT
  rw [List.filter_eq_nil_iff]
  intro m hm
  simp [isT, turn_none h3]
def Stay (l : List Pt) : Prop := ∀ p ∈ l, ∃ a b, p.c = still a b
theorem stay_ori {q : Rat} {m : P3} {a b c d e f : Int} (h1 : m.1.c = still a b) (h2 : m.2.1.c = still c d) (h3 : m.2.2.c = still e f) : (oriC q m).p = kst ((c - a) * (f - b) - (e - a) * (d - b)) ∧ (oriC q m).want = cmpZ ((c - a) * (f - b) - (e - a) * (d - b)) 0 := by
  have h : porient m.1.c m.2.1.c m.2.2.c = kst ((c - a) * (f - b) - (e - a) * (d - b)) := by rw [h1, h2, h3, orient_still]
  unfold oriC
  rw [mkOrient]
  exact ⟨h, by rw [h, germ_kst]⟩
theorem stay_cir {q : Rat} {m : P4} {a b c d e f g h : Int} (h1 : m.1.c = still a b) (h2 : m.2.1.c = still c d) (h3 : m.2.2.1.c = still e f) (h4 : m.2.2.2.c = still g h) :
    (cirC q m).p = kst (idet 4 [[a, b, a * a + b * b, 1], [c, d, c * c + d * d, 1], [e, f, e * e + f * f, 1], [g, h, g * g + h * h, 1]]) ∧ (cirC q m).want = cmpZ (idet 4 [[a, b, a * a + b * b, 1], [c, d, c * c + d * d, 1], [e, f, e * e + f * f, 1], [g, h, g * g + h * h, 1]]) 0 := by
  have hh : pcircle m.1.c m.2.1.c m.2.2.1.c m.2.2.2.c = kst (idet 4 [[a, b, a * a + b * b, 1], [c, d, c * c + d * d, 1], [e, f, e * e + f * f, 1], [g, h, g * g + h * h, 1]]) := by rw [h1, h2, h3, h4, circle_still]
  unfold cirC
  rw [mkCircle]
  exact ⟨hh, by rw [hh, germ_kst]⟩
theorem stay_certs {q : Rat} {l : List Pt} (h : Stay l) : ∀ c ∈ meshC q l, ∃ z, c.p = kst z := by
  intro c hc
  unfold meshC at hc
  rcases List.mem_append.1 hc with hc | hc
  · obtain ⟨m, hm, rfl⟩ := List.mem_map.1 hc
    obtain ⟨h1, h2, h3⟩ := triK_mem _ _ m hm
    obtain ⟨a, b, e1⟩ := h _ (ways_mem h1); obtain ⟨c, d, e2⟩ := h _ (ways_mem h2); obtain ⟨e, f, e3⟩ := h _ (ways_mem h3)
    exact ⟨_, (stay_ori e1 e2 e3).1⟩
  · obtain ⟨m, hm, rfl⟩ := List.mem_map.1 hc
    obtain ⟨h1, h2, h3, h4⟩ := quaK_mem _ _ m hm
    obtain ⟨a, b, e1⟩ := h _ (ways_mem h1); obtain ⟨c, d, e2⟩ := h _ (ways_mem h2); obtain ⟨e, f, e3⟩ := h _ (ways_mem h3); obtain ⟨g, i, e4⟩ := h _ (ways_mem h4)
    exact ⟨_, (stay_cir e1 e2 e3 e4).1⟩
def sqC (x y w h : Int) : List (Int × Int) := [(x, y), (x + w, y), (x, y + h), (x + w, y + h)]
def sqP (x y w h : Int) (i : Nat) : Pt := ⟨still ((sqC x y w h).getD i (0, 0)).1 ((sqC x y w h).getD i (0, 0)).2, i⟩
def sqs (x y w h : Int) (n : Nat) : List Pt := (List.range n).map (sqP x y w h)
def lnP (x y w h : Int) (i : Nat) : Pt := ⟨still (x + (i : Int) * w) (y + (i : Int) * h), i⟩
def lns (x y w h : Int) (n : Nat) : List Pt := (List.range n).map (lnP x y w h)
theorem sqs_stay (x y w h : Int) (n : Nat) : Stay (sqs x y w h n) := by
  intro p hp
  obtain ⟨i, _, rfl⟩ := List.mem_map.1 hp
  exact ⟨_, _, rfl⟩
theorem five_cases {n : Nat} (h : n < 5) : n = 0 ∨ n = 1 ∨ n = 2 ∨ n = 3 ∨ n = 4 := by omega
theorem newL_sqs (x y w h : Int) {n : Nat} (hn : n < 5) : newL [] (sqs x y w h n) = (sqs x y w h n, 0) := by
  rcases five_cases hn with rfl | rfl | rfl | rfl | rfl <;> rfl
theorem newL_lns (x y w h : Int) {n : Nat} (hn : n < 5) : newL [] (lns x y w h n) = (lns x y w h n, 0) := by
  rcases five_cases hn with rfl | rfl | rfl | rfl | rfl <;> rfl
theorem lns_none (q : Rat) (x y w h : Int) (n : Nat) : meshT q (lns x y w h n) = [] := by
  refine mesh_none fun m hm => ?_
  obtain ⟨h1, h2, h3⟩ := triK_mem _ _ m hm
  obtain ⟨i, _, e1⟩ := List.mem_map.1 (ways_mem h1); obtain ⟨j, _, e2⟩ := List.mem_map.1 (ways_mem h2); obtain ⟨k, _, e3⟩ := List.mem_map.1 (ways_mem h3)
  rw [(stay_ori (congrArg Pt.c e1).symm (congrArg Pt.c e2).symm (congrArg Pt.c e3).symm).2]
  refine cmpZ_zero ?_
  grind
theorem crvEq_still (a b c d : Int) : crvEq (still a b) (still c d) = decide (a = c ∧ b = d) := by
  rw [still_eq, still_eq]
  unfold crvEq
  rw [decide_eq_decide]
  constructor
  · rintro ⟨h1, h2, _⟩; exact ⟨kst_inj h1, kst_inj h2⟩
  · rintro ⟨rfl, rfl⟩; exact ⟨rfl, rfl, rfl⟩
theorem sqs_ways (x y w h : Int) {n : Nat} (hn : n < 5) (hw : 1 ≤ w) (hh : 1 ≤ h) : ways (sqs x y w h n) = sqs x y w h n := by
  have e1 : ¬ (x + w = x) := by omega
  have e2 : ¬ (y + h = y) := by omega
  have e3 : ¬ (x = x + w) := by omega
  have e4 : ¬ (y = y + h) := by omega
  rcases five_cases hn with rfl | rfl | rfl | rfl | rfl <;> simp [ways, sqs, List.range, List.range.loop, waysF, sqP, sqC, crvEq_still, e1, e2, e3, e4]
theorem sqs_mesh (q : Rat) (x y w h : Int) {n : Nat} (hn : n < 5) (hw : 1 ≤ w) (hh : 1 ≤ h) : (meshT q (sqs x y w h n)).length = [0, 0, 0, 1, 4].getD n 0 := by
  have hwh : w * h ≠ 0 := by
    intro e
    rcases Int.mul_eq_zero.1 e with e | e <;> omega
  rw [mesh_all ?_ ?_, sqs_ways x y w h hn hw hh]
  · rcases five_cases hn with rfl | rfl | rfl | rfl | rfl <;> rfl
  · rw [sqs_ways x y w h hn hw hh]
    intro m hm
    rcases five_cases hn with rfl | rfl | rfl | rfl | rfl
    · exact absurd hm (by simp [sqs, triples, triK])
    · exact absurd hm (by simp [sqs, triples, triK, List.range, List.range.loop, pairsOf, pairsK])
    · exact absurd hm (by simp [sqs, triples, triK, List.range, List.range.loop, pairsOf, pairsK])
    · have hm : m ∈ [(sqP x y w h 0, (sqP x y w h 1, sqP x y w h 2))] := hm
      simp only [List.mem_cons, List.not_mem_nil, or_false] at hm
      subst hm
      rw [(stay_ori rfl rfl rfl).2]
      refine cmpZ_ne ?_
      simp [sqC]; grind
    · have hm : m ∈ [(sqP x y w h 0, (sqP x y w h 1, sqP x y w h 2)), (sqP x y w h 0, (sqP x y w h 1, sqP x y w h 3)), (sqP x y w h 0, (sqP x y w h 2, sqP x y w h 3)), (sqP x y w h 1, (sqP x y w h 2, sqP x y w h 3))] := hm
      simp only [List.mem_cons, List.not_mem_nil, or_false] at hm
      rcases hm with rfl | rfl | rfl | rfl <;> rw [(stay_ori rfl rfl rfl).2] <;> refine cmpZ_ne ?_ <;> simp [sqC] <;> grind
  · rw [sqs_ways x y w h hn hw hh]
    intro m hm
    rcases five_cases hn with rfl | rfl | rfl | rfl | rfl
    · exact absurd hm (by simp [sqs, quads, quaK])
    · exact absurd hm (by simp [sqs, quads, quaK, List.range, List.range.loop, triples, triK])
    · exact absurd hm (by simp [sqs, quads, quaK, List.range, List.range.loop, triples, triK, pairsOf, pairsK])
    · exact absurd hm (by simp [sqs, quads, quaK, List.range, List.range.loop, triples, triK, pairsOf, pairsK])
    · have hm : m ∈ [(sqP x y w h 0, (sqP x y w h 1, (sqP x y w h 2, sqP x y w h 3)))] := hm
      simp only [List.mem_cons, List.not_mem_nil, or_false] at hm
      subst hm
      rw [(stay_cir rfl rfl rfl rfl).2]
      refine cmpZ_zero ?_
      simp [sqC, idet, idetK]; grind
end Orr

namespace Orr
open Go Go.Proofs
theorem isz_dvd {g z : Int} (h : g ∣ z) (h0 : z ≠ 0) : isz g ≤ isz z := by
 unfold isz
 exact sz_mono (Nat.le_of_dvd (by omega) (Int.natAbs_dvd_natAbs.2 h))
def pcont (p : List Int) : Int := if p.getD (p.length - 1) 0 < 0 then -((gcdL p : Nat) : Int) else (gcdL p : Nat)
def pprim (p : List Int) : List Int := trim (p.map (· / pcont p))
theorem pcont_ne {p : List Int} (t : Trim p) (h : p.length ≠ 0) : gcdL p ≠ 0 := by
 intro e
 have h1 : p.getD (p.length - 1) 0 ∈ p := by
  rw [List.getD_eq_getElem?_getD, List.getElem?_eq_getElem (by omega)]
  exact List.getElem_mem _
 have h2 := gcdL_dvd _ h1
 rw [e] at h2
 exact trim_zero t (by omega) (Int.zero_dvd.1 h2)
theorem pcont_dvd {p : List Int} : ∀ z ∈ p, z % pcont p = 0 := by
 intro z hz
 have h := gcdL_dvd z hz
 unfold pcont
 split
 ·exact Int.emod_eq_zero_of_dvd (Int.neg_dvd.2 h)
 exact Int.emod_eq_zero_of_dvd h
theorem pcont_isz {p : List Int} (h : p.length ≠ 0) {b : Nat} (hp : Bd b p) (t : Trim p) : isz ((gcdL p : Nat) : Int) ≤ b ∧ isz (pcont p) ≤ b := by
 have h1 : p.getD (p.length - 1) 0 ∈ p := by
  rw [List.getD_eq_getElem?_getD, List.getElem?_eq_getElem (by omega)]
  exact List.getElem_mem _
 have h2 := gcdL_dvd _ h1
 have h3 : isz ((gcdL p : Nat) : Int) ≤ b := Nat.le_trans (isz_dvd h2 (trim_zero t (by omega))) (hp _ h1)
 refine ⟨h3, ?_⟩
 unfold pcont
 split
 ·rw [isz_neg]; exact h3
 exact h3
theorem pprim_c {c : Int} (h : c ≠ 0) : pprim [c] = [1] := by
 have hg : gcdL [c] = c.natAbs := by simp [gcdL]
 have h1 : pcont [c] = c := by
  unfold pcont
  rw [hg]
  show (if c < 0 then _ else _) = c
  split <;> omega
 unfold pprim
 rw [h1]
 show trim [c / c] = [1]
 rw [Int.ediv_self h]; rfl
theorem d_pdiv_Content {p : List Int} (hl : p.length ≤ 1000000) (hp : Bd 4294967295 p) : Does Tryz.prog 139 [.one (.row [[pl p]])] (.agg [sg (((gcdL p : Nat) : Int)), mg (((gcdL p : Nat) : Int))]) := by
 refine does_ (n := 18) Tryz.func139 rfl Tryz.ntmps139 rfl ?_
 refine ac_seq (ac_reg ?_)
 refine a_alloc Tryz.zeroValue30 rfl rfl fun g1 => ?_
 refine aw_nil ?_
 refine ac_seq (ac_reg ?_)
 refine w_ (p_assign rfl rfl) ?_
 refine aw_nil ?_
 refine ac_seq (ac_seq (ac_reg ?_))
 refine w_ (p_move rfl rfl) ?_
 refine w_ (p_len (m := 1) Tryz.runUnderlying143 rfl (rfl) rfl) ?_
 refine w_ (p_move rfl rfl) ?_
 refine aw_nil ?_
 refine ac_block ?_
 refine ac_rounds 2 ?_
 refine ac_round ?_
 refine ac_seq (ac_reg ?_)
 refine w_ (p_cmp (b := true) rfl rfl rfl rfl) ?_
 refine aw_nil ?_
 refine ac_seq ?_
 refine ac_t rfl (rfl) ?_
 refine ac_skip ?_
 refine ac_seq (ac_block (ac_seq (ac_reg ?_)))
 refine w_ (p_index (0) Tryz.runUnderlying143 Tryz.sizeOf27 rfl rfl rfl rfl rfl rfl) ?_
 refine w_ (p_loadSh Tryz.isAgg27 Tryz.sizeOf27 rfl rfl rfl rfl) ?_
 refine w_ (p_assign rfl rfl) ?_
 refine aw_nil ?_
 refine ac_reg ?_
 refine w_ (p_move rfl rfl) ?_
 refine w_ (p_move rfl rfl) ?_
 refine a_appendN (ls2 := (p.map ofI)) (m2 := p.length) Tryz.runUnderlying26 Tryz.runUnderlying27 Tryz.typeInfo30 rfl rfl Tryz.sizeOf30 Tryz.zeroValue30 rfl rfl rfl rfl rfl rfl rfl (map_w _ (fun _ => rfl)) (map_f _ (fun _ => rfl)) (by rw [List.length_map]; omega) (rfl) (List.length_map _) fun r2 => ?_
 refine w_ (p_assign rfl rfl) ?_
 refine aw_nil ?_
 refine ac_reg ?_
 refine w_ (p_add (r := ((1 : Nat) : Int)) rfl rfl (rfl) rfl) ?_
 refine w_ (p_move rfl rfl) ?_
 refine aw_nil ?_
 refine ac_round ?_
 refine ac_seq (ac_reg ?_)
 refine w_ (p_cmp (b := false) rfl rfl rfl rfl) ?_
 refine aw_nil ?_
 refine ac_seq ?_
 refine ac_f rfl (rfl) ?_
 refine ac_exit ?_
 repeat refine seqQ_exit ?_
 refine blkQ_here ?_
 refine ac_seq (ac_reg ?_)
 refine w_ (p_move rfl rfl) ?_
 refine aw_pub 0 [16] rfl (allAre1 rfl) (by rw [List.length_map]) (by rw [List.length_map]; omega) rfl ?_
 refine w_ (p_call Tryz.func36 rfl rfl rfl rfl (d_whole_Gcd (isInts_n p) hp) rfl) ?_
 refine a_storeOw 0 Tryz.sizeOf30 rfl rfl rfl rfl rfl rfl rfl ?_
 refine aw_nil ?_
 refine ac_ret ?_
 exact retB_1 Tryz.results139 (rv_cell 0 Tryz.isAgg30 Tryz.sizeOf30 rfl rfl rfl rfl rfl) (rfl)
theorem d_pdiv_over {p : List Int} {g : Int} (hl : p.length < 274877906944) (hp : Bd 4294967295 p) (hg : isz g ≤ 4294967295) (h0 : g ≠ 0) (hd : ∀ z ∈ p, z % g = 0) : Does Tryz.prog 138 [.one (pl p), .agg [sg g, mg g]] (.one (pl (trim (p.map (· / g))))) := by
 refine does_ (n := 30) Tryz.func138 rfl Tryz.ntmps138 rfl ?_
 refine ac_seq (ac_reg ?_)
 refine w_ (p_boxS rfl rfl rfl rfl) ?_
 refine w_ (p_assign rfl rfl) ?_
 refine aw_nil ?_
 refine ac_seq (ac_reg ?_)
 refine w_ (p_move rfl rfl) ?_
 refine w_ (p_len (m := p.length) Tryz.runUnderlying27 rfl (rlen_pl _) rfl) ?_
 refine a_make (p.length) Tryz.runUnderlying27 Tryz.typeInfo30 rfl Tryz.sizeOf30 Tryz.zeroValue30 rfl rfl rfl rfl rfl rfl (rfl) (rfl) (hl) rfl fun r1 => ?_
 refine aw_zeros (ls' := (tab (fun k => p.getD k 0 / g) p.length 0).map ofI) 0 rfl rfl (by rw [← tab_zero]; exact zeros_I _) ?_
 refine w_ (p_assign rfl rfl) ?_
 refine aw_nil ?_
 refine ac_seq (ac_seq (ac_reg ?_))
 refine w_ (p_move rfl rfl) ?_
 refine w_ (p_len (m := p.length) Tryz.runUnderlying27 rfl (rlen_pl _) rfl) ?_
 refine w_ (p_move rfl rfl) ?_
 refine aw_nil ?_
 refine ac_block ?_
 refine ac_pick [3, 5, 11, 12, 13] rfl ?_
 refine ac_loop (fun m L B => ∃ i, i ≤ p.length ∧ m = p.length - i ∧ L = [(3, .one (.sh [sg g, mg g])), (5, .one (.orow r1 2 0 p.length)), (11, .one (pl p)), (12, .one (.int .i64 (((p.length : Nat) : Int)))), (13, .one (.int .i64 ((i : Int))))] ∧ B = [.row r1 30 2 ((tab (fun k => p.getD k 0 / g) p.length i).map ofI)]) (m := _) ⟨0, Nat.zero_le _, rfl, rfl, rfl⟩ ?_
 rintro m L B ⟨i, hp0, hm, rfl, rfl⟩
 by_cases hlt : i < p.length
 ·skip
  refine ac_seq (ac_reg ?_)
  refine w_ (p_cmp rfl rfl rfl rfl) ?_
  refine aw_nil ?_
  refine ac_seq ?_
  refine ac_t rfl (decide_eq_true (by omega)) ?_
  refine ac_skip ?_
  refine ac_seq (ac_block (ac_seq (ac_reg ?_)))
  refine w_ (p_move rfl rfl) ?_
  refine w_ (p_index (i) Tryz.runUnderlying27 Tryz.sizeOf30 rfl rfl (rfl) (map_get (getD_some hlt)) rfl rfl) ?_
  refine w_ (p_loadSh Tryz.isAgg30 Tryz.sizeOf30 rfl rfl rfl rfl) ?_
  refine a_alloc Tryz.zeroValue30 rfl rfl fun g2 => ?_
  refine w_ (p_assign rfl rfl) ?_
  refine a_storeOw 0 Tryz.sizeOf30 rfl rfl rfl rfl rfl rfl rfl ?_
  refine aw_nil ?_
  refine ac_reg ?_
  refine w_ (p_move rfl rfl) ?_
  refine w_ (p_move rfl rfl) ?_
  refine w_ (p_loadOw 0 Tryz.isAgg30 Tryz.sizeOf30 rfl rfl rfl rfl rfl) ?_
  refine w_ (p_loadSh Tryz.isAgg30 Tryz.sizeOf30 rfl rfl rfl rfl) ?_
  refine w_ (p_call Tryz.func37 rfl rfl rfl rfl (d_whole_Exact (isInt_n _) (isInt_n _) (bd_getD hp i) (hg) (h0) (hd _ (List.mem_of_getElem? (getD_some hlt)))) rfl) ?_
  refine w_ (p_move rfl rfl) ?_
  refine w_ (p_extract rfl rfl rfl) ?_
  refine w_ (p_extract rfl rfl rfl) ?_
  refine w_ (p_indexO (i) Tryz.runUnderlying27 Tryz.sizeOf30 rfl rfl (rfl) (by omega) rfl) ?_
  refine a_storeO (ls2 := (tab (fun k => p.getD k 0 / g) p.length (i + 1)).map ofI) 1 Tryz.sizeOf30 rfl rfl rfl rfl rfl rfl (by rw [Nat.zero_add]; exact map_get (tab_get _ hlt)) rfl (by rw [Nat.zero_add]; exact (set_map ofI _ i (p.getD i 0 / g)).trans (by rw [← tab_set _ hlt])) ?_
  refine aw_nil ?_
  refine ac_reg ?_
  refine w_ (p_add (r := ((i + 1 : Nat) : Int)) rfl rfl (i64_is (by omega) (by omega)) rfl) ?_
  refine w_ (p_move rfl rfl) ?_
  refine aw_pick [3, 5, 11, 12, 13] rfl ?_
  refine aw_drop 1 rfl ?_
  refine aw_nil ?_
  refine ⟨_, ?_, i + 1, by omega, rfl, rfl, rfl⟩
  omega
 skip
 refine ac_seq (ac_reg ?_)
 refine w_ (p_cmp rfl rfl rfl rfl) ?_
 refine aw_nil ?_
 refine ac_seq ?_
 refine ac_f rfl (decide_eq_false (by omega)) ?_
 refine ac_exit ?_
 repeat refine seqQ_exit ?_
 refine blkQ_here ?_
 refine ac_seq (ac_reg ?_)
 refine w_ (p_move rfl rfl) ?_
 have htab : (tab (fun k => p.getD k 0 / g) p.length i) = p.map (· / g) := by rw [show i = p.length from by omega, tab_all, map_getD_div]
 refine aw_pub 0 [28] rfl (allAre1 rfl) (by rw [List.length_map, tab_len _ (by omega)]) (by rw [List.length_map, tab_len _ (by omega)]; omega) rfl ?_
 refine w_ (p_call Tryz.func33 rfl rfl rfl rfl (d_poly_NormN (by rw [tab_len _ (by omega)]; exact hl) (by rw [htab]; exact bd_div hp g)) rfl) ?_
 refine w_ (p_assign rfl rfl) ?_
 refine aw_nil ?_
 refine ac_ret ?_
 exact retB_1 Tryz.results138 (rv_tmp rfl rfl) (by rw [htab])
theorem d_pdiv_Primitive {p : List Int} (tp : Trim p) (hl : p.length ≤ 1000000) (hp : Bd 4294967295 p) (h0 : p.length ≠ 0) : Does Tryz.prog 134 [.one (pl p)] (.tup [.agg [sg ((pcont p)), mg ((pcont p))], .one (pl ((pprim p)))]) := by
 refine does_ (n := 23) Tryz.func134 rfl Tryz.ntmps134 rfl ?_
 have hc0 : pcont p ≠ 0 := by
  have := pcont_ne tp h0
  unfold pcont
  split <;> omega
 by_cases hneg : p.getD (p.length - 1) 0 < 0
 ·skip
  refine ac_seq (ac_reg ?_)
  refine a_alloc Tryz.zeroValue30 rfl rfl fun g1 => ?_
  refine w_ (p_assign rfl rfl) ?_
  refine aw_nil ?_
  refine ac_seq (ac_reg ?_)
  refine w_ (p_move rfl rfl) ?_
  refine w_ (p_call Tryz.func33 rfl rfl rfl rfl (d_poly_NormT tp (by omega) hp) rfl) ?_
  refine w_ (p_assign rfl rfl) ?_
  refine aw_nil ?_
  refine ac_seq (ac_seq (ac_reg ?_))
  refine w_ (p_move rfl rfl) ?_
  refine w_ (p_len (m := p.length) Tryz.runUnderlying27 rfl (rlen_pl _) rfl) ?_
  refine w_ (p_cmp rfl rfl rfl rfl) ?_
  refine aw_nil ?_
  refine ac_f rfl (decide_eq_false (by omega)) ?_
  refine ac_skip ?_
  refine ac_seq (ac_reg ?_)
  refine w_ (p_move rfl rfl) ?_
  refine w_ (p_lit Tryz.runUnderlying143 Tryz.sizeOf27 Tryz.zeroValue27 rfl rfl rfl rfl rfl rfl rfl rfl rfl rfl) ?_
  refine w_ (p_call Tryz.func139 rfl rfl rfl rfl (d_pdiv_Content hl hp) rfl) ?_
  refine a_alloc Tryz.zeroValue30 rfl rfl fun g2 => ?_
  refine a_storeOw 0 Tryz.sizeOf30 rfl rfl rfl rfl rfl rfl rfl ?_
  refine aw_nil ?_
  refine ac_seq (ac_seq (ac_reg ?_))
  refine w_ (p_move rfl rfl) ?_
  refine w_ (p_call Tryz.func136 rfl rfl rfl rfl (d_poly_Lead (tp) (by omega) (hp)) rfl) ?_
  refine w_ (p_field (fv_30_0) rfl rfl rfl rfl) ?_
  refine aw_nil ?_
  refine ac_t rfl (decide_eq_true hneg) ?_
  refine ac_reg ?_
  refine w_ (p_loadOw 0 Tryz.isAgg30 Tryz.sizeOf30 rfl rfl rfl rfl rfl) ?_
  refine w_ (p_call Tryz.func24 rfl rfl rfl rfl (d_whole_Neg (isInt_n _) ((pcont_isz h0 hp tp).1)) rfl) ?_
  refine a_storeOw 0 Tryz.sizeOf30 rfl rfl rfl rfl rfl rfl rfl ?_
  refine aw_blk (ys := ofI (pcont p)) 0 rfl rfl (by unfold pcont; rw [if_pos hneg]) ?_
  refine aw_nil ?_
  refine ac_seq ?_
  refine ac_draw mixed_ 4 [19, 20, 21, 22] [[], [], [], [1, 2]] [.agg [sg ((pcont p)), mg ((pcont p))], .one (pl p), .agg [sg ((pcont p)), mg ((pcont p))], .one (pl ((pprim p)))] rfl rfl rfl ⟨p_loadOw 0 Tryz.isAgg30 Tryz.sizeOf30 rfl rfl rfl rfl rfl, p_move rfl rfl, p_loadOw 0 Tryz.isAgg30 Tryz.sizeOf30 rfl rfl rfl rfl rfl, p_call Tryz.func138 rfl rfl rfl rfl (d_pdiv_over (by omega) hp (pcont_isz h0 hp tp).2 hc0 pcont_dvd) rfl, trivial⟩ rfl ?_
  refine a_storeOw 1 Tryz.sizeOf30 rfl rfl rfl rfl rfl rfl rfl ?_
  refine w_ (p_assign rfl rfl) ?_
  refine aw_nil ?_
  refine ac_ret ?_
  exact retB_2 Tryz.results134 (rv_cell 1 Tryz.isAgg30 Tryz.sizeOf30 rfl rfl rfl rfl rfl) (rv_tmp rfl rfl) (rfl)
 skip
 refine ac_seq (ac_reg ?_)
 refine a_alloc Tryz.zeroValue30 rfl rfl fun g3 => ?_
 refine w_ (p_assign rfl rfl) ?_
 refine aw_nil ?_
 refine ac_seq (ac_reg ?_)
 refine w_ (p_move rfl rfl) ?_
 refine w_ (p_call Tryz.func33 rfl rfl rfl rfl (d_poly_NormT tp (by omega) hp) rfl) ?_
 refine w_ (p_assign rfl rfl) ?_
 refine aw_nil ?_
 refine ac_seq (ac_seq (ac_reg ?_))
 refine w_ (p_move rfl rfl) ?_
 refine w_ (p_len (m := p.length) Tryz.runUnderlying27 rfl (rlen_pl _) rfl) ?_
 refine w_ (p_cmp rfl rfl rfl rfl) ?_
 refine aw_nil ?_
 refine ac_f rfl (decide_eq_false (by omega)) ?_
 refine ac_skip ?_
 refine ac_seq (ac_reg ?_)
 refine w_ (p_move rfl rfl) ?_
 refine w_ (p_lit Tryz.runUnderlying143 Tryz.sizeOf27 Tryz.zeroValue27 rfl rfl rfl rfl rfl rfl rfl rfl rfl rfl) ?_
 refine w_ (p_call Tryz.func139 rfl rfl rfl rfl (d_pdiv_Content hl hp) rfl) ?_
 refine a_alloc Tryz.zeroValue30 rfl rfl fun g4 => ?_
 refine a_storeOw 0 Tryz.sizeOf30 rfl rfl rfl rfl rfl rfl rfl ?_
 refine aw_blk (ys := ofI (pcont p)) 0 rfl rfl (by unfold pcont; rw [if_neg hneg]) ?_
 refine aw_nil ?_
 refine ac_seq (ac_seq (ac_reg ?_))
 refine w_ (p_move rfl rfl) ?_
 refine w_ (p_call Tryz.func136 rfl rfl rfl rfl (d_poly_Lead (tp) (by omega) (hp)) rfl) ?_
 refine w_ (p_field (fv_30_0) rfl rfl rfl rfl) ?_
 refine aw_nil ?_
 refine ac_f rfl (decide_eq_false hneg) ?_
 refine ac_skip ?_
 refine ac_seq ?_
 refine ac_draw mixed_ 4 [19, 20, 21, 22] [[], [], [], [1, 2]] [.agg [sg ((pcont p)), mg ((pcont p))], .one (pl p), .agg [sg ((pcont p)), mg ((pcont p))], .one (pl ((pprim p)))] rfl rfl rfl ⟨p_loadOw 0 Tryz.isAgg30 Tryz.sizeOf30 rfl rfl rfl rfl rfl, p_move rfl rfl, p_loadOw 0 Tryz.isAgg30 Tryz.sizeOf30 rfl rfl rfl rfl rfl, p_call Tryz.func138 rfl rfl rfl rfl (d_pdiv_over (by omega) hp (pcont_isz h0 hp tp).2 hc0 pcont_dvd) rfl, trivial⟩ rfl ?_
 refine a_storeOw 1 Tryz.sizeOf30 rfl rfl rfl rfl rfl rfl rfl ?_
 refine w_ (p_assign rfl rfl) ?_
 refine aw_nil ?_
 refine ac_ret ?_
 exact retB_2 Tryz.results134 (rv_cell 1 Tryz.isAgg30 Tryz.sizeOf30 rfl rfl rfl rfl rfl) (rv_tmp rfl rfl) (rfl)
theorem d_pdiv_Primitive0  : Does Tryz.prog 134 [.one (pl ([]))] (.tup [.agg [sg 0, mg 0], .one (pl ([]))]) := by
 refine does_ (n := 23) Tryz.func134 rfl Tryz.ntmps134 rfl ?_
 refine ac_seq (ac_reg ?_)
 refine a_alloc Tryz.zeroValue30 rfl rfl fun g1 => ?_
 refine w_ (p_assign rfl rfl) ?_
 refine aw_nil ?_
 refine ac_seq (ac_reg ?_)
 refine w_ (p_move rfl rfl) ?_
 refine w_ (p_call Tryz.func33 rfl rfl rfl rfl (d_poly_NormT (p := []) rfl (by decide) bd_nil) rfl) ?_
 refine w_ (p_assign rfl rfl) ?_
 refine aw_nil ?_
 refine ac_seq (ac_seq (ac_reg ?_))
 refine w_ (p_move rfl rfl) ?_
 refine w_ (p_len (m := ([]).length) Tryz.runUnderlying27 rfl (rlen_pl _) rfl) ?_
 refine w_ (p_cmp rfl rfl rfl rfl) ?_
 refine aw_nil ?_
 refine ac_t rfl (rfl) ?_
 refine ac_seq (ac_reg ?_)
 refine w_ (p_build (bd_30) rfl rfl rfl rfl) ?_
 refine a_storeOw 0 Tryz.sizeOf30 rfl rfl rfl rfl rfl rfl rfl ?_
 refine aw_blk (ys := ofI 0) 0 rfl rfl ofI_zero.symm ?_
 refine w_ (p_assign rfl rfl) ?_
 refine aw_nil ?_
 refine ac_slotNil 3 rfl ?_
 refine ac_ret ?_
 exact retB_2 Tryz.results134 (rv_cell 0 Tryz.isAgg30 Tryz.sizeOf30 rfl rfl rfl rfl rfl) (rv_tmp rfl rfl) (rfl)
theorem trim_c {c : Int} (h : c ≠ 0) : Trim [c] := trim_one h
theorem bd_c {c : Int} (hs : isz c ≤ 4294967295) : Bd 4294967295 [c] := by
 intro z hz; rw [List.mem_singleton.1 hz]; exact hs
theorem d_pdiv_PrimC {c : Int} (h : c ≠ 0) (hs : isz c ≤ 4294967295) : Does Tryz.prog 134 [.one (pl [c])] (.tup [.agg (ofI (pcont [c])), .one (pl [1])]) := by
 have h2 := d_pdiv_Primitive (p := [c]) (trim_c h) (by simp) (bd_c hs) (by simp)
 rwa [pprim_c h] at h2
theorem d_pgcd_primeC {c : Int} (h : c ≠ 0) (hs : isz c ≤ 4294967295) : Does Tryz.prog 108 [.one (pl ([c]))] (.one (pl ([1]))) := by
 refine does_ (n := 11) Tryz.func108 rfl Tryz.ntmps108 rfl ?_
 refine ac_seq (ac_reg ?_)
 refine w_ (p_assign rfl rfl) ?_
 refine aw_nil ?_
 refine ac_seq (ac_reg ?_)
 refine w_ (p_move rfl rfl) ?_
 refine w_ (p_call Tryz.func134 rfl rfl rfl rfl (d_pdiv_PrimC h hs) rfl) ?_
 refine w_ (p_move rfl rfl) ?_
 refine w_ (p_extract rfl rfl rfl) ?_
 refine w_ (p_extract rfl rfl rfl) ?_
 refine a_alloc Tryz.zeroValue30 rfl rfl fun g1 => ?_
 refine a_storeOw 0 Tryz.sizeOf30 rfl rfl rfl rfl rfl rfl rfl ?_
 refine w_ (p_assign rfl rfl) ?_
 refine aw_nil ?_
 refine ac_seq (ac_reg ?_)
 refine w_ (p_move rfl rfl) ?_
 refine w_ (p_assign rfl rfl) ?_
 refine aw_nil ?_
 refine ac_ret ?_
 exact retB_1 Tryz.results108 (rv_tmp rfl rfl) (rfl)
theorem d_pgcd_prime0  : Does Tryz.prog 108 [.one (pl ([]))] (.one (pl ([]))) := by
 refine does_ (n := 11) Tryz.func108 rfl Tryz.ntmps108 rfl ?_
 refine ac_seq (ac_reg ?_)
 refine w_ (p_assign rfl rfl) ?_
 refine aw_nil ?_
 refine ac_seq (ac_reg ?_)
 refine w_ (p_move rfl rfl) ?_
 refine w_ (p_call Tryz.func134 rfl rfl rfl rfl (d_pdiv_Primitive0) rfl) ?_
 refine w_ (p_move rfl rfl) ?_
 refine w_ (p_extract rfl rfl rfl) ?_
 refine w_ (p_extract rfl rfl rfl) ?_
 refine a_alloc Tryz.zeroValue30 rfl rfl fun g1 => ?_
 refine a_storeOw 0 Tryz.sizeOf30 rfl rfl rfl rfl rfl rfl rfl ?_
 refine w_ (p_assign rfl rfl) ?_
 refine aw_nil ?_
 refine ac_seq (ac_reg ?_)
 refine w_ (p_move rfl rfl) ?_
 refine w_ (p_assign rfl rfl) ?_
 refine aw_nil ?_
 refine ac_ret ?_
 exact retB_1 Tryz.results108 (rv_tmp rfl rfl) (rfl)
theorem d_Deg {p : List Int} (hl : p.length < 274877906944) : Does Tryz.prog 51 [.one (pl p)] (.one (.int .i64 (((p.length : Int) - 1)))) := by
 refine does_ (n := 6) Tryz.func51 rfl Tryz.ntmps51 rfl ?_
 refine ac_seq (ac_reg ?_)
 refine w_ (p_assign rfl rfl) ?_
 refine aw_nil ?_
 refine ac_seq (ac_reg ?_)
 refine w_ (p_move rfl rfl) ?_
 refine w_ (p_len (m := p.length) Tryz.runUnderlying27 rfl (rlen_pl _) rfl) ?_
 refine w_ (p_sub (r := ((p.length : Int) - 1)) rfl rfl (i64_is rfl (by omega)) rfl) ?_
 refine w_ (p_assign rfl rfl) ?_
 refine aw_nil ?_
 refine ac_ret ?_
 exact retB_1 Tryz.results51 (rv_tmp rfl rfl) (rfl)
theorem d_pgcd_layers1  : Does Tryz.prog 147 [.one (pl ([1]))] (.one (pls (([] : List (List Int))))) := by
 refine does_ (n := 23) Tryz.func147 rfl Tryz.ntmps147 rfl ?_
 refine ac_seq (ac_reg ?_)
 refine w_ (p_assign rfl rfl) ?_
 refine aw_nil ?_
 refine ac_seq (ac_reg ?_)
 refine w_ (p_assign rfl rfl) ?_
 refine aw_nil ?_
 refine ac_seq (ac_seq (ac_reg ?_))
 refine w_ (p_move rfl rfl) ?_
 refine w_ (p_call Tryz.func108 rfl rfl rfl rfl (d_pgcd_primeC (show (1 : Int) ≠ 0 by decide) (by decide)) rfl) ?_
 refine w_ (p_assign rfl rfl) ?_
 refine aw_nil ?_
 refine ac_block ?_
 refine ac_rounds 1 ?_
 refine ac_round ?_
 refine ac_seq (ac_seq (ac_reg ?_))
 refine w_ (p_move rfl rfl) ?_
 refine w_ (p_call Tryz.func51 rfl rfl rfl rfl (d_Deg (p := [1]) (by decide)) rfl) ?_
 refine w_ (p_cmp rfl rfl rfl rfl) ?_
 refine aw_nil ?_
 refine ac_f rfl (rfl) ?_
 refine ac_exit ?_
 repeat refine seqQ_exit ?_
 refine blkQ_here ?_
 refine ac_seq (ac_reg ?_)
 refine w_ (p_move rfl rfl) ?_
 refine w_ (p_assign rfl rfl) ?_
 refine aw_nil ?_
 refine ac_slotNil 2 rfl ?_
 refine ac_ret ?_
 exact retB_1 Tryz.results147 (rv_tmp rfl rfl) (rfl)
theorem d_pgcd_Factors1  : Does Tryz.prog 130 [.one (pl ([1]))] (.one (pls (([] : List (List Int))))) := by
 refine does_ (n := 40) Tryz.func130 rfl Tryz.ntmps130 rfl ?_
 refine ac_seq (ac_reg ?_)
 refine w_ (p_assign rfl rfl) ?_
 refine aw_nil ?_
 refine ac_seq (ac_reg ?_)
 refine w_ (p_move rfl rfl) ?_
 refine w_ (p_call Tryz.func147 rfl rfl rfl rfl (d_pgcd_layers1) rfl) ?_
 refine w_ (p_assign rfl rfl) ?_
 refine aw_nil ?_
 refine ac_seq (ac_reg ?_)
 refine w_ (p_move rfl rfl) ?_
 refine w_ (p_len (m := (([] : List (List Int))).length) Tryz.runUnderlying143 rfl (rlen_pls _) rfl) ?_
 refine a_make (0) Tryz.runUnderlying143 Tryz.typeInfo27 rfl Tryz.sizeOf27 Tryz.zeroValue27 rfl rfl rfl rfl rfl rfl (rfl) (rfl) (by decide) rfl fun r1 => ?_
 refine w_ (p_assign rfl rfl) ?_
 refine aw_nil ?_
 refine ac_seq (ac_seq (ac_reg ?_))
 refine w_ (p_move rfl rfl) ?_
 refine w_ (p_len (m := (([] : List (List Int))).length) Tryz.runUnderlying143 rfl (rlen_pls _) rfl) ?_
 refine w_ (p_move rfl rfl) ?_
 refine aw_nil ?_
 refine ac_block ?_
 refine ac_rounds 1 ?_
 refine ac_round ?_
 refine ac_seq (ac_reg ?_)
 refine w_ (p_cmp rfl rfl rfl rfl) ?_
 refine aw_nil ?_
 refine ac_seq ?_
 refine ac_f rfl (rfl) ?_
 refine ac_exit ?_
 repeat refine seqQ_exit ?_
 refine blkQ_here ?_
 refine ac_seq (ac_reg ?_)
 refine w_ (p_move rfl rfl) ?_
 refine w_ (p_assign rfl rfl) ?_
 refine aw_nil ?_
 refine ac_pub (L2 := _) 0 [2] rfl (allAre1 rfl) rfl (by decide) rfl ?_
 refine ac_ret ?_
 exact retB_1 Tryz.results130 (rv_tmp rfl rfl) (rfl)
theorem d_pgcd_OddC {c : Int} (h : c ≠ 0) (hs : isz c ≤ 4294967295) : Does Tryz.prog 95 [.one (pl ([c]))] (.one (pl ([1]))) := by
 refine does_ (n := 29) Tryz.func95 rfl Tryz.ntmps95 rfl ?_
 refine ac_seq (ac_reg ?_)
 refine w_ (p_assign rfl rfl) ?_
 refine aw_nil ?_
 refine ac_seq (ac_reg ?_)
 refine w_ (p_move rfl rfl) ?_
 refine w_ (p_call Tryz.func108 rfl rfl rfl rfl (d_pgcd_primeC h hs) rfl) ?_
 refine w_ (p_assign rfl rfl) ?_
 refine aw_nil ?_
 refine ac_seq (ac_seq (ac_reg ?_))
 refine w_ (p_move rfl rfl) ?_
 refine w_ (p_len (m := ([1]).length) Tryz.runUnderlying27 rfl (rlen_pl _) rfl) ?_
 refine w_ (p_cmp rfl rfl rfl rfl) ?_
 refine aw_nil ?_
 refine ac_f rfl (rfl) ?_
 refine ac_skip ?_
 refine ac_seq (ac_reg ?_)
 refine w_ (p_lit Tryz.runUnderlying42 Tryz.sizeOf3 Tryz.zeroValue3 rfl rfl rfl rfl rfl rfl rfl rfl rfl rfl) ?_
 refine w_ (p_call Tryz.func12 rfl rfl rfl rfl (d_poly_Of (p := [1]) (by decide) (by decide)) rfl) ?_
 refine w_ (p_assign rfl rfl) ?_
 refine aw_nil ?_
 refine ac_seq (ac_seq (ac_reg ?_))
 refine w_ (p_move rfl rfl) ?_
 refine w_ (p_call Tryz.func130 rfl rfl rfl rfl (d_pgcd_Factors1) rfl) ?_
 refine w_ (p_len (m := (([] : List (List Int))).length) Tryz.runUnderlying143 rfl (rlen_pls _) rfl) ?_
 refine w_ (p_move rfl rfl) ?_
 refine aw_nil ?_
 refine ac_block ?_
 refine ac_rounds 1 ?_
 refine ac_round ?_
 refine ac_seq (ac_reg ?_)
 refine w_ (p_cmp rfl rfl rfl rfl) ?_
 refine aw_nil ?_
 refine ac_seq ?_
 refine ac_f rfl (rfl) ?_
 refine ac_exit ?_
 repeat refine seqQ_exit ?_
 refine blkQ_here ?_
 refine ac_seq (ac_reg ?_)
 refine w_ (p_move rfl rfl) ?_
 refine w_ (p_assign rfl rfl) ?_
 refine aw_nil ?_
 refine ac_ret ?_
 exact retB_1 Tryz.results95 (rv_tmp rfl rfl) (rfl)
theorem d_pgcd_Odd0  : Does Tryz.prog 95 [.one (pl ([]))] (.one (pl ([]))) := by
 refine does_ (n := 29) Tryz.func95 rfl Tryz.ntmps95 rfl ?_
 refine ac_seq (ac_reg ?_)
 refine w_ (p_assign rfl rfl) ?_
 refine aw_nil ?_
 refine ac_seq (ac_reg ?_)
 refine w_ (p_move rfl rfl) ?_
 refine w_ (p_call Tryz.func108 rfl rfl rfl rfl (d_pgcd_prime0) rfl) ?_
 refine w_ (p_assign rfl rfl) ?_
 refine aw_nil ?_
 refine ac_seq (ac_seq (ac_reg ?_))
 refine w_ (p_move rfl rfl) ?_
 refine w_ (p_len (m := ([]).length) Tryz.runUnderlying27 rfl (rlen_pl _) rfl) ?_
 refine w_ (p_cmp rfl rfl rfl rfl) ?_
 refine aw_nil ?_
 refine ac_t rfl (rfl) ?_
 refine ac_seq (ac_reg ?_)
 refine w_ (p_assign rfl rfl) ?_
 refine aw_nil ?_
 refine ac_slotNil 2 rfl ?_
 refine ac_ret ?_
 exact retB_1 Tryz.results95 (rv_tmp rfl rfl) (rfl)
theorem d_pgcd_Square1  : Does Tryz.prog 125 [.one (pl ([1]))] (.one (pl ([1]))) := by
 refine does_ (n := 15) Tryz.func125 rfl Tryz.ntmps125 rfl ?_
 refine ac_seq (ac_reg ?_)
 refine w_ (p_assign rfl rfl) ?_
 refine aw_nil ?_
 refine ac_seq (ac_reg ?_)
 refine w_ (p_move rfl rfl) ?_
 refine w_ (p_call Tryz.func108 rfl rfl rfl rfl (d_pgcd_primeC (show (1 : Int) ≠ 0 by decide) (by decide)) rfl) ?_
 refine w_ (p_assign rfl rfl) ?_
 refine aw_nil ?_
 refine ac_seq (ac_seq (ac_reg ?_))
 refine w_ (p_move rfl rfl) ?_
 refine w_ (p_call Tryz.func51 rfl rfl rfl rfl (d_Deg (p := [1]) (by decide)) rfl) ?_
 refine w_ (p_cmp rfl rfl rfl rfl) ?_
 refine aw_nil ?_
 refine ac_t rfl (rfl) ?_
 refine ac_seq (ac_reg ?_)
 refine w_ (p_move rfl rfl) ?_
 refine w_ (p_assign rfl rfl) ?_
 refine aw_nil ?_
 refine ac_ret ?_
 exact retB_1 Tryz.results125 (rv_tmp rfl rfl) (rfl)
theorem d_pgcd_Square0  : Does Tryz.prog 125 [.one (pl ([]))] (.one (pl ([]))) := by
 refine does_ (n := 15) Tryz.func125 rfl Tryz.ntmps125 rfl ?_
 refine ac_seq (ac_reg ?_)
 refine w_ (p_assign rfl rfl) ?_
 refine aw_nil ?_
 refine ac_seq (ac_reg ?_)
 refine w_ (p_move rfl rfl) ?_
 refine w_ (p_call Tryz.func108 rfl rfl rfl rfl (d_pgcd_prime0) rfl) ?_
 refine w_ (p_assign rfl rfl) ?_
 refine aw_nil ?_
 refine ac_seq (ac_seq (ac_reg ?_))
 refine w_ (p_move rfl rfl) ?_
 refine w_ (p_call Tryz.func51 rfl rfl rfl rfl (d_Deg (p := []) (by decide)) rfl) ?_
 refine w_ (p_cmp rfl rfl rfl rfl) ?_
 refine aw_nil ?_
 refine ac_t rfl (rfl) ?_
 refine ac_seq (ac_reg ?_)
 refine w_ (p_move rfl rfl) ?_
 refine w_ (p_assign rfl rfl) ?_
 refine aw_nil ?_
 refine ac_ret ?_
 exact retB_1 Tryz.results125 (rv_tmp rfl rfl) (rfl)
theorem d_sturm_New1  : Does Tryz.prog 123 [.one (pl ([1]))] (.tup [.one (.sh [.row [[pl ([1])]]]), .one (.int .i64 0)]) := by
 refine does_ (n := 48) Tryz.func123 rfl Tryz.ntmps123 rfl ?_
 refine ac_seq (ac_reg ?_)
 refine w_ (p_assign rfl rfl) ?_
 refine w_ (p_assign rfl rfl) ?_
 refine aw_nil ?_
 refine ac_seq (ac_reg ?_)
 refine w_ (p_move rfl rfl) ?_
 refine w_ (p_call Tryz.func125 rfl rfl rfl rfl (d_pgcd_Square1) rfl) ?_
 refine w_ (p_assign rfl rfl) ?_
 refine aw_nil ?_
 refine ac_seq (ac_seq (ac_reg ?_))
 refine w_ (p_move rfl rfl) ?_
 refine w_ (p_len (m := ([1]).length) Tryz.runUnderlying27 rfl (rlen_pl _) rfl) ?_
 refine w_ (p_cmp rfl rfl rfl rfl) ?_
 refine aw_nil ?_
 refine ac_f rfl (rfl) ?_
 refine ac_skip ?_
 refine ac_seq (ac_reg ?_)
 refine w_ (p_move rfl rfl) ?_
 refine w_ (p_lit Tryz.runUnderlying143 Tryz.sizeOf27 Tryz.zeroValue27 rfl rfl rfl rfl rfl rfl rfl rfl rfl rfl) ?_
 refine w_ (p_build (bd_188) rfl rfl rfl rfl) ?_
 refine w_ (p_boxS rfl rfl rfl rfl) ?_
 refine w_ (p_assign rfl rfl) ?_
 refine aw_nil ?_
 refine ac_seq (ac_reg ?_)
 refine w_ (p_move rfl rfl) ?_
 refine w_ (p_call Tryz.func107 rfl rfl rfl rfl (d_poly_Derive (p := [1]) (by decide) (bd_c (by decide))) rfl) ?_
 refine w_ (p_call Tryz.func134 rfl rfl rfl rfl (d_pdiv_Primitive0) rfl) ?_
 refine w_ (p_move rfl rfl) ?_
 refine w_ (p_extract rfl rfl rfl) ?_
 refine w_ (p_extract rfl rfl rfl) ?_
 refine a_alloc Tryz.zeroValue30 rfl rfl fun g1 => ?_
 refine a_storeOw 0 Tryz.sizeOf30 rfl rfl rfl rfl rfl rfl rfl ?_
 refine w_ (p_assign rfl rfl) ?_
 refine aw_nil ?_
 refine ac_seq (ac_block ?_)
 refine ac_rounds 1 ?_
 refine ac_round ?_
 refine ac_seq (ac_seq (ac_reg ?_))
 refine w_ (p_move rfl rfl) ?_
 refine w_ (p_len (m := ([]).length) Tryz.runUnderlying27 rfl (rlen_pl _) rfl) ?_
 refine w_ (p_cmp rfl rfl rfl rfl) ?_
 refine aw_nil ?_
 refine ac_f rfl (rfl) ?_
 refine ac_exit ?_
 repeat refine seqQ_exit ?_
 refine blkQ_here ?_
 refine ac_seq (ac_reg ?_)
 refine w_ (p_move rfl rfl) ?_
 refine w_ (p_assign rfl rfl) ?_
 refine w_ (p_assign rfl rfl) ?_
 refine aw_nil ?_
 refine ac_ret ?_
 exact retB_2 Tryz.results123 (rv_tmp rfl rfl) (rv_tmp rfl rfl) (rfl)
theorem d_sturm_New0  : Does Tryz.prog 123 [.one (pl ([]))] (.tup [.one (.nilp), .one (.int .i64 2)]) := by
 refine does_ (n := 48) Tryz.func123 rfl Tryz.ntmps123 rfl ?_
 refine ac_seq (ac_reg ?_)
 refine w_ (p_assign rfl rfl) ?_
 refine w_ (p_assign rfl rfl) ?_
 refine aw_nil ?_
 refine ac_seq (ac_reg ?_)
 refine w_ (p_move rfl rfl) ?_
 refine w_ (p_call Tryz.func125 rfl rfl rfl rfl (d_pgcd_Square0) rfl) ?_
 refine w_ (p_assign rfl rfl) ?_
 refine aw_nil ?_
 refine ac_seq (ac_seq (ac_reg ?_))
 refine w_ (p_move rfl rfl) ?_
 refine w_ (p_len (m := ([]).length) Tryz.runUnderlying27 rfl (rlen_pl _) rfl) ?_
 refine w_ (p_cmp rfl rfl rfl rfl) ?_
 refine aw_nil ?_
 refine ac_t rfl (rfl) ?_
 refine ac_seq (ac_reg ?_)
 refine w_ (p_assign rfl rfl) ?_
 refine w_ (p_assign rfl rfl) ?_
 refine aw_nil ?_
 refine ac_ret ?_
 exact retB_2 Tryz.results123 (rv_tmp rfl rfl) (rv_tmp rfl rfl) (rfl)
theorem d_int_Sign1 {l : List Nat} (h : l.length ≠ 0) : Does Tryz.prog 155 [.agg [.bool false, u32r l]] (.one (.int .i64 1)) := by
 refine does_ (n := 11) Tryz.func155 rfl Tryz.ntmps155 rfl ?_
 refine ac_seq (ac_reg ?_)
 refine w_ (p_boxS rfl rfl rfl rfl) ?_
 refine w_ (p_assign rfl rfl) ?_
 refine aw_nil ?_
 refine ac_seq (ac_block (ac_seq (ac_reg ?_)))
 refine w_ (p_fieldSh fa_30_1 rfl rfl rfl) ?_
 refine w_ (p_loadSh Tryz.isAgg28 Tryz.sizeOf28 rfl rfl rfl rfl) ?_
 refine w_ (p_len (m := l.length) Tryz.runUnderlying28 rfl (by simp [rlen, u32r]) rfl) ?_
 refine w_ (p_cmp rfl rfl rfl rfl) ?_
 refine w_ (p_assign rfl rfl) ?_
 refine aw_nil ?_
 refine ac_f rfl (decide_eq_false (by omega)) ?_
 refine ac_seq (ac_reg ?_)
 refine w_ (p_fieldSh fa_30_0 rfl rfl rfl) ?_
 refine w_ (p_loadSh Tryz.isAgg4 Tryz.sizeOf4 rfl rfl rfl rfl) ?_
 refine w_ (p_assign rfl rfl) ?_
 refine aw_nil ?_
 refine ac_f rfl (rfl) ?_
 refine ac_skip ?_
 refine ac_seq (ac_reg ?_)
 refine w_ (p_assign rfl rfl) ?_
 refine aw_nil ?_
 refine ac_ret ?_
 exact retB_1 Tryz.results155 (rv_tmp rfl rfl) (rfl)
theorem d_int_Sign1N : Does Tryz.prog 155 [.agg (ofI 1)] (.one (.int .i64 1)) := d_int_Sign1 (l := limbs (1 : Int).natAbs) (fun e => absurd (limbs_nil.1 e) (by decide))
theorem d_poly_Ends1  : Does Tryz.prog 153 [.one (pl ([1]))] (.tup [.one (.int .i64 1), .one (.int .i64 1)]) := by
 refine does_ (n := 18) Tryz.func153 rfl Tryz.ntmps153 rfl ?_
 refine ac_seq (ac_reg ?_)
 refine w_ (p_assign rfl rfl) ?_
 refine w_ (p_assign rfl rfl) ?_
 refine aw_nil ?_
 refine ac_seq (ac_reg ?_)
 refine w_ (p_move rfl rfl) ?_
 refine w_ (p_call Tryz.func33 rfl rfl rfl rfl (d_poly_NormT (p := [1]) (trim_c (by decide)) (by decide) (bd_c (by decide))) rfl) ?_
 refine w_ (p_assign rfl rfl) ?_
 refine aw_nil ?_
 refine ac_seq (ac_reg ?_)
 refine w_ (p_move rfl rfl) ?_
 refine w_ (p_call Tryz.func136 rfl rfl rfl rfl (d_poly_Lead (p := [1]) (trim_c (by decide)) (by decide) (bd_c (by decide))) rfl) ?_
 refine w_ (p_call Tryz.func155 rfl rfl rfl rfl (d_int_Sign1N) rfl) ?_
 refine w_ (p_assign rfl rfl) ?_
 refine aw_nil ?_
 refine ac_seq (ac_seq (ac_reg ?_))
 refine w_ (p_move rfl rfl) ?_
 refine w_ (p_len (m := ([1]).length) Tryz.runUnderlying27 rfl (rlen_pl _) rfl) ?_
 refine w_ (p_rem (r := ((1 : Nat) : Int)) rfl rfl (by decide) (rfl) rfl) ?_
 refine w_ (p_cmp (b := false) rfl rfl rfl rfl) ?_
 refine aw_nil ?_
 refine ac_f rfl (rfl) ?_
 refine ac_skip ?_
 refine ac_seq (ac_reg ?_)
 refine w_ (p_move rfl rfl) ?_
 refine w_ (p_move rfl rfl) ?_
 refine w_ (p_assign rfl rfl) ?_
 refine w_ (p_assign rfl rfl) ?_
 refine aw_nil ?_
 refine ac_ret ?_
 exact retB_2 Tryz.results153 (rv_tmp rfl rfl) (rv_tmp rfl rfl) (rfl)
theorem d_sturm_minus1  : Does Tryz.prog 152 [.one (pl ([1]))] (.one (.int .i64 1)) := by
 refine does_ (n := 11) Tryz.func152 rfl Tryz.ntmps152 rfl ?_
 refine ac_seq (ac_reg ?_)
 refine w_ (p_assign rfl rfl) ?_
 refine aw_nil ?_
 refine ac_seq (ac_reg ?_)
 refine w_ (p_move rfl rfl) ?_
 refine w_ (p_call Tryz.func153 rfl rfl rfl rfl (d_poly_Ends1) rfl) ?_
 refine w_ (p_move rfl rfl) ?_
 refine w_ (p_extract rfl rfl rfl) ?_
 refine w_ (p_extract rfl rfl rfl) ?_
 refine w_ (p_assign rfl rfl) ?_
 refine w_ (p_assign rfl rfl) ?_
 refine aw_nil ?_
 refine ac_seq (ac_reg ?_)
 refine w_ (p_move rfl rfl) ?_
 refine w_ (p_assign rfl rfl) ?_
 refine aw_nil ?_
 refine ac_ret ?_
 exact retB_1 Tryz.results152 (rv_tmp rfl rfl) (rfl)
theorem d_sturm_plus1  : Does Tryz.prog 154 [.one (pl ([1]))] (.one (.int .i64 1)) := by
 refine does_ (n := 11) Tryz.func154 rfl Tryz.ntmps154 rfl ?_
 refine ac_seq (ac_reg ?_)
 refine w_ (p_assign rfl rfl) ?_
 refine aw_nil ?_
 refine ac_seq (ac_reg ?_)
 refine w_ (p_move rfl rfl) ?_
 refine w_ (p_call Tryz.func153 rfl rfl rfl rfl (d_poly_Ends1) rfl) ?_
 refine w_ (p_move rfl rfl) ?_
 refine w_ (p_extract rfl rfl rfl) ?_
 refine w_ (p_extract rfl rfl rfl) ?_
 refine w_ (p_assign rfl rfl) ?_
 refine w_ (p_assign rfl rfl) ?_
 refine aw_nil ?_
 refine ac_seq (ac_reg ?_)
 refine w_ (p_move rfl rfl) ?_
 refine w_ (p_assign rfl rfl) ?_
 refine aw_nil ?_
 refine ac_ret ?_
 exact retB_1 Tryz.results154 (rv_tmp rfl rfl) (rfl)
theorem d_sturm_turns1 {fid : Nat} {fn : Func} (hfn : Tryz.prog.funcs[fid]? = some fn) (hnm : (fn.name == "runtime.NumGoroutine") = false) (hbd : fn.body.isNone = false) (hf : Does Tryz.prog fid [.one (pl [1])] (.one (.int .i64 1))) : Does Tryz.prog 149 [.one (.sh [.row [[pl ([1])]]]), .one (.fn fid [] [])] (.one (.int .i64 0)) := by
 refine does_ (n := 33) Tryz.func149 rfl Tryz.ntmps149 rfl ?_
 refine ac_seq (ac_reg ?_)
 refine w_ (p_assign rfl rfl) ?_
 refine aw_nil ?_
 refine ac_seq (ac_reg ?_)
 refine w_ (p_assign rfl rfl) ?_
 refine w_ (p_assign rfl rfl) ?_
 refine aw_nil ?_
 refine ac_seq (ac_seq (ac_reg ?_))
 refine w_ (p_move rfl rfl) ?_
 refine w_ (p_nilCheck rfl rfl rfl) ?_
 refine w_ (p_fieldSh fa_188_0 rfl rfl rfl) ?_
 refine w_ (p_loadSh Tryz.isAgg143 Tryz.sizeOf143 rfl rfl rfl rfl) ?_
 refine w_ (p_len (m := 1) Tryz.runUnderlying143 rfl (rfl) rfl) ?_
 refine w_ (p_move rfl rfl) ?_
 refine aw_nil ?_
 refine ac_block ?_
 refine ac_rounds 2 ?_
 refine ac_round ?_
 refine ac_seq (ac_reg ?_)
 refine w_ (p_cmp (b := true) rfl rfl rfl rfl) ?_
 refine aw_nil ?_
 refine ac_seq ?_
 refine ac_t rfl (rfl) ?_
 refine ac_skip ?_
 refine ac_seq (ac_block (ac_seq (ac_reg ?_)))
 refine w_ (p_index (0) Tryz.runUnderlying143 Tryz.sizeOf27 rfl rfl rfl rfl rfl rfl) ?_
 refine w_ (p_loadSh Tryz.isAgg27 Tryz.sizeOf27 rfl rfl rfl rfl) ?_
 refine w_ (p_assign rfl rfl) ?_
 refine aw_nil ?_
 refine ac_seq (ac_reg ?_)
 refine w_ (p_move rfl rfl) ?_
 refine w_ (p_move rfl rfl) ?_
 refine w_ (p_callFn rfl hfn hnm hbd rfl rfl hf rfl) ?_
 refine w_ (p_assign rfl rfl) ?_
 refine aw_nil ?_
 refine ac_seq (ac_seq (ac_reg ?_))
 refine w_ (p_move rfl rfl) ?_
 refine w_ (p_cmp (b := false) rfl rfl rfl rfl) ?_
 refine aw_nil ?_
 refine ac_f rfl (rfl) ?_
 refine ac_skip ?_
 refine ac_seq (ac_seq (ac_reg ?_))
 refine w_ (p_move rfl rfl) ?_
 refine w_ (p_move rfl rfl) ?_
 refine w_ (p_neg (r := (-1)) rfl (i64_is rfl (by decide)) rfl) ?_
 refine w_ (p_cmp rfl rfl rfl rfl) ?_
 refine aw_nil ?_
 refine ac_f rfl (rfl) ?_
 refine ac_skip ?_
 refine ac_reg ?_
 refine w_ (p_move rfl rfl) ?_
 refine w_ (p_assign rfl rfl) ?_
 refine aw_nil ?_
 refine ac_reg ?_
 refine w_ (p_add (r := ((1 : Nat) : Int)) rfl rfl (rfl) rfl) ?_
 refine w_ (p_move rfl rfl) ?_
 refine aw_nil ?_
 refine ac_round ?_
 refine ac_seq (ac_reg ?_)
 refine w_ (p_cmp (b := false) rfl rfl rfl rfl) ?_
 refine aw_nil ?_
 refine ac_seq ?_
 refine ac_f rfl (rfl) ?_
 refine ac_exit ?_
 repeat refine seqQ_exit ?_
 refine blkQ_here ?_
 refine ac_seq (ac_reg ?_)
 refine w_ (p_move rfl rfl) ?_
 refine w_ (p_assign rfl rfl) ?_
 refine aw_nil ?_
 refine ac_ret ?_
 exact retB_1 Tryz.results149 (rv_tmp rfl rfl) (rfl)
theorem d_sturm_minus  : Does Tryz.prog 145 [.one (.sh [.row [[pl ([1])]]])] (.one (.int .i64 0)) := by
 refine does_ (n := 5) Tryz.func145 rfl Tryz.ntmps145 rfl ?_
 refine ac_seq (ac_reg ?_)
 refine w_ (p_assign rfl rfl) ?_
 refine aw_nil ?_
 refine ac_seq (ac_reg ?_)
 refine w_ (p_move rfl rfl) ?_
 refine w_ (p_call Tryz.func149 rfl rfl rfl rfl (d_sturm_turns1 Tryz.func152 rfl rfl d_sturm_minus1) rfl) ?_
 refine w_ (p_assign rfl rfl) ?_
 refine aw_nil ?_
 refine ac_ret ?_
 exact retB_1 Tryz.results145 (rv_tmp rfl rfl) (rfl)
theorem d_sturm_plus  : Does Tryz.prog 146 [.one (.sh [.row [[pl ([1])]]])] (.one (.int .i64 0)) := by
 refine does_ (n := 5) Tryz.func146 rfl Tryz.ntmps146 rfl ?_
 refine ac_seq (ac_reg ?_)
 refine w_ (p_assign rfl rfl) ?_
 refine aw_nil ?_
 refine ac_seq (ac_reg ?_)
 refine w_ (p_move rfl rfl) ?_
 refine w_ (p_call Tryz.func149 rfl rfl rfl rfl (d_sturm_turns1 Tryz.func154 rfl rfl d_sturm_plus1) rfl) ?_
 refine w_ (p_assign rfl rfl) ?_
 refine aw_nil ?_
 refine ac_ret ?_
 exact retB_1 Tryz.results146 (rv_tmp rfl rfl) (rfl)
theorem d_sturm_Count  : Does Tryz.prog 129 [.one (.sh [.row [[pl ([1])]]])] (.one (.int .i64 0)) := by
 refine does_ (n := 8) Tryz.func129 rfl Tryz.ntmps129 rfl ?_
 refine ac_seq (ac_reg ?_)
 refine w_ (p_assign rfl rfl) ?_
 refine aw_nil ?_
 refine ac_seq (ac_reg ?_)
 refine w_ (p_move rfl rfl) ?_
 refine w_ (p_call Tryz.func145 rfl rfl rfl rfl (d_sturm_minus) rfl) ?_
 refine w_ (p_move rfl rfl) ?_
 refine w_ (p_call Tryz.func146 rfl rfl rfl rfl (d_sturm_plus) rfl) ?_
 refine w_ (p_sub (r := 0) rfl rfl (i64_is rfl (by decide)) rfl) ?_
 refine w_ (p_assign rfl rfl) ?_
 refine aw_nil ?_
 refine ac_ret ?_
 exact retB_1 Tryz.results129 (rv_tmp rfl rfl) (rfl)
theorem qs_1 : Qs 4294967295 (ratOf 1 1) := ⟨by decide +kernel, by decide +kernel⟩
theorem d_ratio_Make1  : Does Tryz.prog 144 [.agg [sg 1, mg 1], .agg [sg 1, mg 1]] (.tup [.agg [sg (((ratOf 1 1)).num), mg (((ratOf 1 1)).num), sg ((((ratOf 1 1)).den : Int)), mg ((((ratOf 1 1)).den : Int))], .one (.int .i64 0)]) := by
 refine does_ (n := 15) Tryz.func144 rfl Tryz.ntmps144 rfl ?_
 refine ac_seq (ac_reg ?_)
 refine a_box rfl rfl rfl fun g1 => ?_
 refine a_box rfl rfl rfl fun g2 => ?_
 refine a_alloc Tryz.zeroValue41 rfl rfl fun g3 => ?_
 refine w_ (p_assign rfl rfl) ?_
 refine aw_nil ?_
 refine ac_seq (ac_seq (ac_reg ?_))
 refine w_ (p_loadOw 1 Tryz.isAgg30 Tryz.sizeOf30 rfl rfl rfl rfl rfl) ?_
 refine w_ (p_call Tryz.func34 rfl rfl rfl rfl (d_whole_Norm (isInt_n _) (by decide)) rfl) ?_
 refine a_storeOw 1 Tryz.sizeOf30 rfl rfl rfl rfl rfl rfl rfl ?_
 refine aw_nil ?_
 refine ac_seq (ac_reg ?_)
 refine w_ (p_loadOw 1 Tryz.isAgg30 Tryz.sizeOf30 rfl rfl rfl rfl rfl) ?_
 refine w_ (p_call Tryz.func35 rfl rfl rfl rfl ((d_ZeroN _) ) rfl) ?_
 refine aw_nil ?_
 refine ac_f rfl (rfl) ?_
 refine ac_skip ?_
 refine ac_seq ?_
 refine ac_draw mixed_ 3 [11, 12, 13] [[], [0], []] [.agg [sg 1, mg 1], .agg [sg 1, mg 1], .agg [sg 1, mg 1]] rfl rfl rfl ⟨p_loadOw 2 Tryz.isAgg30 Tryz.sizeOf30 rfl rfl rfl rfl rfl, p_call Tryz.func34 rfl rfl rfl rfl (d_whole_Norm (isInt_n _) (by decide)) rfl, p_loadOw 1 Tryz.isAgg30 Tryz.sizeOf30 rfl rfl rfl rfl rfl, trivial⟩ rfl ?_
 refine w_ (p_call Tryz.func69 rfl rfl rfl rfl (d_ratio_lowest (by decide) (by decide) (by decide)) rfl) ?_
 refine a_storeOw 0 Tryz.sizeOf41 rfl rfl rfl rfl rfl rfl rfl ?_
 refine w_ (p_assign rfl rfl) ?_
 refine aw_nil ?_
 refine ac_ret ?_
 exact retB_2 Tryz.results144 (rv_cell 0 Tryz.isAgg41 Tryz.sizeOf41 rfl rfl rfl rfl rfl) (rv_tmp rfl rfl) (rfl)
set_option maxRecDepth 20000 in
theorem d_sturm_Bound1  : Does Tryz.prog 126 [.one (pl ([1]))] (.tup [.agg [sg (((ratOf 1 1)).num), mg (((ratOf 1 1)).num), sg ((((ratOf 1 1)).den : Int)), mg ((((ratOf 1 1)).den : Int))], .one (.int .i64 0)]) := by
 refine does_ (n := 43) Tryz.func126 rfl Tryz.ntmps126 rfl ?_
 refine ac_seq (ac_reg ?_)
 refine a_alloc Tryz.zeroValue41 rfl rfl fun g1 => ?_
 refine w_ (p_assign rfl rfl) ?_
 refine aw_nil ?_
 refine ac_seq (ac_reg ?_)
 refine w_ (p_move rfl rfl) ?_
 refine w_ (p_call Tryz.func33 rfl rfl rfl rfl (d_poly_NormT (p := [1]) (trim_c (by decide)) (by decide) (bd_c (by decide))) rfl) ?_
 refine w_ (p_assign rfl rfl) ?_
 refine aw_nil ?_
 refine ac_seq (ac_seq (ac_reg ?_))
 refine w_ (p_move rfl rfl) ?_
 refine w_ (p_len (m := ([1]).length) Tryz.runUnderlying27 rfl (rlen_pl _) rfl) ?_
 refine w_ (p_cmp rfl rfl rfl rfl) ?_
 refine aw_nil ?_
 refine ac_f rfl (rfl) ?_
 refine ac_skip ?_
 refine ac_seq (ac_reg ?_)
 refine a_alloc Tryz.zeroValue30 rfl rfl fun g2 => ?_
 refine aw_nil ?_
 refine ac_seq (ac_seq (ac_reg ?_))
 refine w_ (p_move rfl rfl) ?_
 refine w_ (p_move rfl rfl) ?_
 refine w_ (p_len (m := ([1]).length) Tryz.runUnderlying27 rfl (rlen_pl _) rfl) ?_
 refine w_ (p_sub (r := ((0 : Nat) : Int)) rfl rfl (i64_is rfl (by decide)) rfl) ?_
 refine w_ (p_sliceHi 0 Tryz.runUnderlying27 Tryz.sizeOf30 rfl rfl rfl (Nat.zero_le _) (one_w rfl) (l' := ([] : List Int).map ofI) rfl rfl) ?_
 refine w_ (p_len (m := (([] : List Int)).length) Tryz.runUnderlying27 rfl (rlen_pl _) rfl) ?_
 refine w_ (p_move rfl rfl) ?_
 refine aw_nil ?_
 refine ac_block ?_
 refine ac_rounds 1 ?_
 refine ac_round ?_
 refine ac_seq (ac_reg ?_)
 refine w_ (p_cmp rfl rfl rfl rfl) ?_
 refine aw_nil ?_
 refine ac_seq ?_
 refine ac_f rfl (rfl) ?_
 refine ac_exit ?_
 repeat refine seqQ_exit ?_
 refine blkQ_here ?_
 refine ac_seq (ac_reg ?_)
 refine w_ (p_move rfl rfl) ?_
 refine w_ (p_call Tryz.func136 rfl rfl rfl rfl (d_poly_Lead (p := [1]) (trim_c (by decide)) (by decide) (bd_c (by decide))) rfl) ?_
 refine w_ (p_call Tryz.func143 rfl rfl rfl rfl (d_whole_Abs (isInt_n 1) (by decide)) rfl) ?_
 refine a_alloc Tryz.zeroValue30 rfl rfl fun g3 => ?_
 refine a_storeOw 0 Tryz.sizeOf30 rfl rfl rfl rfl rfl rfl rfl ?_
 refine aw_nil ?_
 refine ac_seq ?_
 refine ac_draw mixed_ 7 [36, 37, 38, 39, 40, 41, 42] [[], [], [0, 1], [], [2, 3], [4], [4]] [.agg [sg 1, mg 1], .agg [.bool false, .nils], .agg [sg 1, mg 1], .agg [sg 1, mg 1], .tup [.agg [sg (((ratOf 1 1)).num), mg (((ratOf 1 1)).num), sg ((((ratOf 1 1)).den : Int)), mg ((((ratOf 1 1)).den : Int))], .one (.int .i64 0)], .agg [sg (((ratOf 1 1)).num), mg (((ratOf 1 1)).num), sg ((((ratOf 1 1)).den : Int)), mg ((((ratOf 1 1)).den : Int))], .one (.int .i64 0)] rfl rfl rfl ⟨p_loadOw 0 Tryz.isAgg30 Tryz.sizeOf30 rfl rfl rfl rfl rfl, p_loadOw 1 Tryz.isAgg30 Tryz.sizeOf30 rfl rfl rfl rfl rfl, p_call Tryz.func121 rfl rfl rfl rfl (d_whole_Add (isInt_n 1) isInt_zero (by decide) (by decide)) rfl, p_loadOw 0 Tryz.isAgg30 Tryz.sizeOf30 rfl rfl rfl rfl rfl, p_call Tryz.func144 rfl rfl rfl rfl (d_ratio_Make1) rfl, p_extract rfl rfl rfl, p_extract rfl rfl rfl, trivial⟩ rfl ?_
 refine a_storeOw 2 Tryz.sizeOf41 rfl rfl rfl rfl rfl rfl rfl ?_
 refine w_ (p_assign rfl rfl) ?_
 refine aw_nil ?_
 refine ac_ret ?_
 exact retB_2 Tryz.results126 (rv_cell 2 Tryz.isAgg41 Tryz.sizeOf41 rfl rfl rfl rfl rfl) (rv_tmp rfl rfl) (rfl)
theorem d_ratio_Neg1  : Does Tryz.prog 128 [.agg [sg (((ratOf 1 1)).num), mg (((ratOf 1 1)).num), sg ((((ratOf 1 1)).den : Int)), mg ((((ratOf 1 1)).den : Int))]] (.agg [sg ((-(ratOf 1 1).num)), mg ((-(ratOf 1 1).num)), sg (((ratOf 1 1).den : Int)), mg (((ratOf 1 1).den : Int))]) := by
 refine does_ (n := 10) Tryz.func128 rfl Tryz.ntmps128 rfl ?_
 refine ac_seq (ac_reg ?_)
 refine a_box rfl rfl rfl fun g1 => ?_
 refine a_alloc Tryz.zeroValue41 rfl rfl fun g2 => ?_
 refine aw_nil ?_
 refine ac_seq (ac_reg ?_)
 refine w_ (p_loadOw 1 Tryz.isAgg41 Tryz.sizeOf41 rfl rfl rfl rfl rfl) ?_
 refine w_ (p_call Tryz.func43 rfl rfl rfl rfl (d_ratio_normQ (q := ratOf 1 1) qs_1) rfl) ?_
 refine a_storeOw 1 Tryz.sizeOf41 rfl rfl rfl rfl rfl rfl rfl ?_
 refine aw_nil ?_
 refine ac_seq (ac_reg ?_)
 refine w_ (p_fieldOw fa_41_0 rfl rfl) ?_
 refine w_ (p_loadOw 1 Tryz.isAgg30 Tryz.sizeOf30 rfl rfl rfl rfl rfl) ?_
 refine w_ (p_call Tryz.func24 rfl rfl rfl rfl (d_whole_Neg (isInt_n _) (by decide)) rfl) ?_
 refine w_ (p_fieldOw fa_41_0 rfl rfl) ?_
 refine a_storeOw 1 Tryz.sizeOf30 rfl rfl rfl rfl rfl rfl rfl ?_
 refine aw_nil ?_
 refine ac_seq (ac_reg ?_)
 refine w_ (p_loadOw 1 Tryz.isAgg41 Tryz.sizeOf41 rfl rfl rfl rfl rfl) ?_
 refine a_storeOw 0 Tryz.sizeOf41 rfl rfl rfl rfl rfl rfl rfl ?_
 refine aw_nil ?_
 refine ac_ret ?_
 exact retB_1 Tryz.results128 (rv_cell 0 Tryz.isAgg41 Tryz.sizeOf41 rfl rfl rfl rfl rfl) (rfl)
theorem d_isolate_cut0 {x0 x1 x2 x3 y0 y1 y2 y3 : LV} : Does Tryz.prog 127 [.one (pl ([1])), .one (.sh [.row [[pl ([1])]]]), .agg [x0, x1, x2, x3], .agg [y0, y1, y2, y3], .one (.int .i64 0)] (.one (.row ([]))) := by
 refine does_ (n := 48) Tryz.func127 rfl Tryz.ntmps127 rfl ?_
 refine ac_seq (ac_reg ?_)
 refine a_box rfl rfl rfl fun g1 => ?_
 refine a_box rfl rfl rfl fun g2 => ?_
 refine w_ (p_assign rfl rfl) ?_
 refine aw_nil ?_
 refine ac_seq (ac_seq (ac_reg ?_))
 refine w_ (p_move rfl rfl) ?_
 refine aw_nil ?_
 refine ac_block (ac_seq (ac_reg ?_))
 refine w_ (p_cmp (b := true) rfl rfl rfl rfl) ?_
 refine w_ (p_assign rfl rfl) ?_
 refine aw_nil ?_
 refine ac_t rfl (rfl) ?_
 refine ac_seq (ac_reg ?_)
 refine w_ (p_assign rfl rfl) ?_
 refine aw_nil ?_
 refine ac_slotNil 10 rfl ?_
 refine ac_ret ?_
 exact retB_1 Tryz.results127 (rv_tmp rfl rfl) (rfl)
set_option maxRecDepth 20000 in
theorem d_isolate_Roots1  : Does Tryz.prog 94 [.one (pl ([1]))] (.tup [.one (.row ([])), .one (.int .i64 0)]) := by
 refine does_ (n := 32) Tryz.func94 rfl Tryz.ntmps94 rfl ?_
 refine ac_seq (ac_reg ?_)
 refine w_ (p_assign rfl rfl) ?_
 refine w_ (p_assign rfl rfl) ?_
 refine aw_nil ?_
 refine ac_seq (ac_reg ?_)
 refine w_ (p_move rfl rfl) ?_
 refine w_ (p_call Tryz.func123 rfl rfl rfl rfl (d_sturm_New1) rfl) ?_
 refine w_ (p_move rfl rfl) ?_
 refine w_ (p_extract rfl rfl rfl) ?_
 refine w_ (p_extract rfl rfl rfl) ?_
 refine w_ (p_assign rfl rfl) ?_
 refine w_ (p_assign rfl rfl) ?_
 refine aw_nil ?_
 refine ac_seq (ac_seq (ac_reg ?_))
 refine w_ (p_move rfl rfl) ?_
 refine w_ (p_cmp (b := false) rfl rfl rfl rfl) ?_
 refine aw_nil ?_
 refine ac_f rfl (rfl) ?_
 refine ac_skip ?_
 refine ac_seq (ac_reg ?_)
 refine w_ (p_move rfl rfl) ?_
 refine w_ (p_call Tryz.func125 rfl rfl rfl rfl (d_pgcd_Square1) rfl) ?_
 refine w_ (p_assign rfl rfl) ?_
 refine aw_nil ?_
 refine ac_seq (ac_reg ?_)
 refine w_ (p_move rfl rfl) ?_
 refine w_ (p_call Tryz.func126 rfl rfl rfl rfl (d_sturm_Bound1) rfl) ?_
 refine w_ (p_move rfl rfl) ?_
 refine w_ (p_extract rfl rfl rfl) ?_
 refine w_ (p_extract rfl rfl rfl) ?_
 refine a_alloc Tryz.zeroValue41 rfl rfl fun g1 => ?_
 refine a_storeOw 0 Tryz.sizeOf41 rfl rfl rfl rfl rfl rfl rfl ?_
 refine w_ (p_assign rfl rfl) ?_
 refine aw_nil ?_
 refine ac_seq ?_
 refine ac_draw mixed_ 7 [24, 25, 26, 27, 28, 29, 30] [[], [], [], [2], [], [], [5]] [.one (pl ([1])), .one (.sh [.row [[pl ([1])]]]), .agg [sg (((ratOf 1 1)).num), mg (((ratOf 1 1)).num), sg ((((ratOf 1 1)).den : Int)), mg ((((ratOf 1 1)).den : Int))], .agg [sg ((-(ratOf 1 1).num)), mg ((-(ratOf 1 1).num)), sg (((ratOf 1 1).den : Int)), mg (((ratOf 1 1).den : Int))], .agg [sg (((ratOf 1 1)).num), mg (((ratOf 1 1)).num), sg ((((ratOf 1 1)).den : Int)), mg ((((ratOf 1 1)).den : Int))], .one (.sh [.row [[pl ([1])]]]), .one (.int .i64 0)] rfl rfl rfl ⟨p_move rfl rfl, p_move rfl rfl, p_loadOw 0 Tryz.isAgg41 Tryz.sizeOf41 rfl rfl rfl rfl rfl, p_call Tryz.func128 rfl rfl rfl rfl (d_ratio_Neg1) rfl, p_loadOw 0 Tryz.isAgg41 Tryz.sizeOf41 rfl rfl rfl rfl rfl, p_move rfl rfl, p_call Tryz.func129 rfl rfl rfl rfl (d_sturm_Count) rfl, trivial⟩ rfl ?_
 refine w_ (p_call Tryz.func127 rfl rfl rfl rfl (d_isolate_cut0) rfl) ?_
 refine w_ (p_assign rfl rfl) ?_
 refine w_ (p_assign rfl rfl) ?_
 refine aw_nil ?_
 refine ac_ret ?_
 exact retB_2 Tryz.results94 (rv_tmp rfl rfl) (rv_tmp rfl rfl) (rfl)
theorem d_isolate_Roots0  : Does Tryz.prog 94 [.one (pl ([]))] (.tup [.one (.row ([])), .one (.int .i64 2)]) := by
 refine does_ (n := 32) Tryz.func94 rfl Tryz.ntmps94 rfl ?_
 refine ac_seq (ac_reg ?_)
 refine w_ (p_assign rfl rfl) ?_
 refine w_ (p_assign rfl rfl) ?_
 refine aw_nil ?_
 refine ac_seq (ac_reg ?_)
 refine w_ (p_move rfl rfl) ?_
 refine w_ (p_call Tryz.func123 rfl rfl rfl rfl (d_sturm_New0) rfl) ?_
 refine w_ (p_move rfl rfl) ?_
 refine w_ (p_extract rfl rfl rfl) ?_
 refine w_ (p_extract rfl rfl rfl) ?_
 refine w_ (p_assign rfl rfl) ?_
 refine w_ (p_assign rfl rfl) ?_
 refine aw_nil ?_
 refine ac_seq (ac_seq (ac_reg ?_))
 refine w_ (p_move rfl rfl) ?_
 refine w_ (p_cmp (b := true) rfl rfl rfl rfl) ?_
 refine aw_nil ?_
 refine ac_t rfl (rfl) ?_
 refine ac_seq (ac_reg ?_)
 refine w_ (p_move rfl rfl) ?_
 refine w_ (p_assign rfl rfl) ?_
 refine w_ (p_assign rfl rfl) ?_
 refine aw_nil ?_
 refine ac_slotNil 2 rfl ?_
 refine ac_ret ?_
 exact retB_2 Tryz.results94 (rv_tmp rfl rfl) (rv_tmp rfl rfl) (rfl)
theorem d_germ_TurnsC {c : Int} (h : c ≠ 0) (hs : isz c ≤ 4294967295) : Does Tryz.prog 64 [.one (pl ([c]))] (.one (.row ([]))) := by
 refine does_ (n := 14) Tryz.func64 rfl Tryz.ntmps64 rfl ?_
 refine ac_seq (ac_reg ?_)
 refine w_ (p_assign rfl rfl) ?_
 refine aw_nil ?_
 refine ac_seq (ac_reg ?_)
 refine w_ (p_move rfl rfl) ?_
 refine w_ (p_call Tryz.func95 rfl rfl rfl rfl (d_pgcd_OddC h hs) rfl) ?_
 refine w_ (p_call Tryz.func94 rfl rfl rfl rfl (d_isolate_Roots1) rfl) ?_
 refine w_ (p_move rfl rfl) ?_
 refine w_ (p_extract rfl rfl rfl) ?_
 refine w_ (p_extract rfl rfl rfl) ?_
 refine w_ (p_assign rfl rfl) ?_
 refine w_ (p_assign rfl rfl) ?_
 refine aw_nil ?_
 refine ac_seq (ac_seq (ac_reg ?_))
 refine w_ (p_move rfl rfl) ?_
 refine w_ (p_cmp (b := false) rfl rfl rfl rfl) ?_
 refine aw_nil ?_
 refine ac_f rfl (rfl) ?_
 refine ac_skip ?_
 refine ac_seq (ac_reg ?_)
 refine w_ (p_move rfl rfl) ?_
 refine w_ (p_assign rfl rfl) ?_
 refine aw_nil ?_
 refine ac_ret ?_
 exact retB_1 Tryz.results64 (rv_tmp rfl rfl) (rfl)
theorem d_germ_Turns0  : Does Tryz.prog 64 [.one (pl ([]))] (.one (.row ([]))) := by
 refine does_ (n := 14) Tryz.func64 rfl Tryz.ntmps64 rfl ?_
 refine ac_seq (ac_reg ?_)
 refine w_ (p_assign rfl rfl) ?_
 refine aw_nil ?_
 refine ac_seq (ac_reg ?_)
 refine w_ (p_move rfl rfl) ?_
 refine w_ (p_call Tryz.func95 rfl rfl rfl rfl (d_pgcd_Odd0) rfl) ?_
 refine w_ (p_call Tryz.func94 rfl rfl rfl rfl (d_isolate_Roots0) rfl) ?_
 refine w_ (p_move rfl rfl) ?_
 refine w_ (p_extract rfl rfl rfl) ?_
 refine w_ (p_extract rfl rfl rfl) ?_
 refine w_ (p_assign rfl rfl) ?_
 refine w_ (p_assign rfl rfl) ?_
 refine aw_nil ?_
 refine ac_seq (ac_seq (ac_reg ?_))
 refine w_ (p_move rfl rfl) ?_
 refine w_ (p_cmp (b := true) rfl rfl rfl rfl) ?_
 refine aw_nil ?_
 refine ac_t rfl (rfl) ?_
 refine ac_seq (ac_reg ?_)
 refine w_ (p_assign rfl rfl) ?_
 refine aw_nil ?_
 refine ac_slotNil 2 rfl ?_
 refine ac_ret ?_
 exact retB_1 Tryz.results64 (rv_tmp rfl rfl) (rfl)
theorem d_germ_TurnsK {z : Int} (hs : isz z ≤ 4294967295) : Does Tryz.prog 64 [.one (pl (kst z))] (.one (.row [])) := by
 rw [kst_eq]
 by_cases h : z = 0
 ·rw [if_pos h]; exact d_germ_Turns0
 rw [if_neg h]; exact d_germ_TurnsC h hs
theorem d_germ_NextK {z : Int} {q : Rat} (hs : isz z ≤ 4294967295) : Does Tryz.prog 31 [.one (pl ((kst z))), .agg [pl ([-q.num, (q.den : Int)]), sg q.num, mg q.num, sg ((q.den : Int)), mg ((q.den : Int)), sg q.num, mg q.num, sg ((q.den : Int)), mg ((q.den : Int))]] (.tup [.agg [.row ([]), .bool false, .row ([]), .bool false, .row ([]), .bool false, .row ([]), .bool false, .row ([])], .one (.bool false)]) := by
 refine does_ (n := 22) Tryz.func31 rfl Tryz.ntmps31 rfl ?_
 refine ac_seq (ac_reg ?_)
 refine w_ (p_boxS rfl rfl rfl rfl) ?_
 refine a_alloc Tryz.zeroValue44 rfl rfl fun g1 => ?_
 refine w_ (p_assign rfl rfl) ?_
 refine aw_nil ?_
 refine ac_seq (ac_seq (ac_reg ?_))
 refine w_ (p_move rfl rfl) ?_
 refine w_ (p_call Tryz.func64 rfl rfl rfl rfl (d_germ_TurnsK hs) rfl) ?_
 refine w_ (p_len (m := ([]).length) Tryz.runUnderlying68 rfl (rfl) rfl) ?_
 refine w_ (p_move rfl rfl) ?_
 refine aw_nil ?_
 refine ac_block ?_
 refine ac_rounds 1 ?_
 refine ac_round ?_
 refine ac_seq (ac_reg ?_)
 refine w_ (p_cmp rfl rfl rfl rfl) ?_
 refine aw_nil ?_
 refine ac_seq ?_
 refine ac_f rfl (rfl) ?_
 refine ac_exit ?_
 repeat refine seqQ_exit ?_
 refine blkQ_here ?_
 refine ac_seq (ac_reg ?_)
 refine w_ (p_build (bd_44) rfl rfl rfl rfl) ?_
 refine a_storeOw 0 Tryz.sizeOf44 rfl rfl rfl rfl rfl rfl rfl ?_
 refine aw_blk (ys := [.row ([]), .bool false, .row ([]), .bool false, .row ([]), .bool false, .row ([]), .bool false, .row ([])]) 0 rfl rfl rfl ?_
 refine w_ (p_assign rfl rfl) ?_
 refine aw_nil ?_
 refine ac_ret ?_
 exact retB_2 Tryz.results31 (rv_cell 0 Tryz.isAgg44 Tryz.sizeOf44 rfl rfl rfl rfl rfl) (rv_tmp rfl rfl) (rfl)
abbrev ofV (c : Ct) : List LV := [.int .i64 c.kind, .int .i64 c.i0, .int .i64 c.i1, .int .i64 c.i2, .int .i64 c.i3, pl c.p, .int .i64 c.want, .bool true, .bool false, .row ([]), .bool false, .row ([]), .bool false, .row ([]), .bool false, .row ([]), .bool false, .row ([])]
def vts (l : List Ct) : LV := .row (l.map ofV)
theorem rlen_vts (l : List Ct) : rlen (vts l) = some l.length := by simp [rlen, vts]
def StayC (ws : List Ct) : Prop := ∀ c ∈ ws, ∃ z, c.p = kst z ∧ isz z ≤ 4294967295
set_option maxRecDepth 20000 in
theorem d_kin_lookK {g T : Nat} {ys : List LV} {ev : Int} {q : Rat} {ws : List Ct} (hq : Qs 1073741823 q) (hn : ws.length ≤ 1000000) (hst : StayC ws) : DoesB Tryz.prog 17 [.one (.ow g 0)] [.blk g T ((.bool true) :: (pl ([-q.num, (q.den : Int)])) :: (sg q.num) :: (mg q.num) :: (sg ((q.den : Int))) :: (mg ((q.den : Int))) :: (sg q.num) :: (mg q.num) :: (sg ((q.den : Int))) :: (mg ((q.den : Int))) :: (wts ws) :: (.int .i64 ev) :: ys)] fun r B => r = .tup [] ∧ B = [.blk g T ((.bool true) :: (pl ([-q.num, (q.den : Int)])) :: (sg q.num) :: (mg q.num) :: (sg ((q.den : Int))) :: (mg ((q.den : Int))) :: (sg q.num) :: (mg q.num) :: (sg ((q.den : Int))) :: (mg ((q.den : Int))) :: (vts ws) :: (.int .i64 ev) :: ys)] := by
 refine does_ (n := 40) Tryz.func17 rfl Tryz.ntmps17 rfl ?_
 refine ac_seq (ac_reg ?_)
 refine w_ (p_assign rfl rfl) ?_
 refine aw_nil ?_
 refine ac_seq (ac_reg ?_)
 refine w_ (p_move rfl rfl) ?_
 refine a_calls (Bin := [.blk g T ((.bool true) :: (pl ([-q.num, (q.den : Int)])) :: (sg q.num) :: (mg q.num) :: (sg ((q.den : Int))) :: (mg ((q.den : Int))) :: (sg q.num) :: (mg q.num) :: (sg ((q.den : Int))) :: (mg ((q.den : Int))) :: (wts ws) :: (.int .i64 ev) :: ys)]) Tryz.func30 rfl rfl rfl rfl (d_kin_Now hq) rfl fun r_ B_ hr_ => ?_
 obtain ⟨rfl, rfl⟩ := hr_
 refine a_alloc Tryz.zeroValue44 rfl rfl fun g1 => ?_
 refine a_storeOw 0 Tryz.sizeOf44 rfl rfl rfl rfl rfl rfl rfl ?_
 refine aw_nil ?_
 refine ac_seq (ac_seq (ac_reg ?_))
 refine w_ (p_move rfl rfl) ?_
 refine w_ (p_nilCheck rfl rfl rfl) ?_
 refine w_ (p_fieldOw fa_49_2 rfl rfl) ?_
 refine w_ (p_loadOw 1 Tryz.isAgg47 Tryz.sizeOf47 rfl rfl rfl rfl rfl) ?_
 refine w_ (p_len (m := ws.length) Tryz.runUnderlying47 rfl (rlen_wts _) rfl) ?_
 refine w_ (p_move rfl rfl) ?_
 refine aw_nil ?_
 refine ac_block ?_
 refine ac_ownNil [2] 75 18 rfl (allAre1 rfl) rfl ?_
 refine ac_pick [0, 2, 3, 11, 12, 13] rfl ?_
 refine ac_loop (fun m L B => ∃ i r, i ≤ ws.length ∧ m = ws.length - i ∧ L = [(0, .one (.ow g 0)), (2, .one (.orow r 18 0 i)), (3, .one (.ow g1 0)), (11, .one (wts ws)), (12, .one (.int .i64 (((ws.length : Nat) : Int)))), (13, .one (.int .i64 (((i : Nat) : Int))))] ∧ B = [.row r 75 18 ((ws.take i).map ofV), .blk g1 44 [pl ([-q.num, (q.den : Int)]), sg q.num, mg q.num, sg ((q.den : Int)), mg ((q.den : Int)), sg q.num, mg q.num, sg ((q.den : Int)), mg ((q.den : Int))], .blk g T ((.bool true) :: (pl ([-q.num, (q.den : Int)])) :: (sg q.num) :: (mg q.num) :: (sg ((q.den : Int))) :: (mg ((q.den : Int))) :: (sg q.num) :: (mg q.num) :: (sg ((q.den : Int))) :: (mg ((q.den : Int))) :: (wts ws) :: (.int .i64 ev) :: ys)]) (m := _) ⟨0, none, Nat.zero_le _, rfl, rfl, rfl⟩ ?_
 rintro m L B ⟨i, r, hp0, hm, rfl, rfl⟩
 by_cases hlt : i < ws.length
 ·obtain ⟨c, hc⟩ : ∃ c, ws[i]? = some c := ⟨_, List.getElem?_eq_getElem hlt⟩
  obtain ⟨z, hz, hzs⟩ := hst c (List.mem_of_getElem? hc)
  refine ac_seq (ac_reg ?_)
  refine w_ (p_cmp rfl rfl rfl rfl) ?_
  refine aw_nil ?_
  refine ac_seq ?_
  refine ac_t rfl (decide_eq_true (by omega)) ?_
  refine ac_skip ?_
  refine ac_seq (ac_block (ac_seq (ac_reg ?_)))
  refine w_ (p_index (i) Tryz.runUnderlying47 Tryz.sizeOf75 rfl rfl (rfl) (map_get hc) rfl rfl) ?_
  refine w_ (p_loadSh Tryz.isAgg75 Tryz.sizeOf75 rfl rfl rfl rfl) ?_
  refine a_alloc Tryz.zeroValue75 rfl rfl fun g2 => ?_
  refine a_storeOw 0 Tryz.sizeOf75 rfl rfl rfl rfl rfl rfl rfl ?_
  refine aw_nil ?_
  refine ac_seq (ac_seq (ac_reg ?_))
  refine w_ (p_fieldOw fa_75_1 rfl rfl) ?_
  refine w_ (p_loadOw 0 Tryz.isAgg4 Tryz.sizeOf4 rfl rfl rfl rfl rfl) ?_
  refine w_ (p_not rfl rfl) ?_
  refine aw_nil ?_
  refine ac_t rfl (rfl) ?_
  refine ac_seq (ac_reg ?_)
  refine w_ (p_fieldOw fa_75_0 rfl rfl) ?_
  refine w_ (p_fieldOw fa_73_1 rfl rfl) ?_
  refine w_ (p_loadOw 0 Tryz.isAgg27 Tryz.sizeOf27 rfl rfl rfl rfl rfl) ?_
  refine w_ (p_loadOw 2 Tryz.isAgg44 Tryz.sizeOf44 rfl rfl rfl rfl rfl) ?_
  refine w_ (p_call Tryz.func31 rfl rfl rfl rfl (show Does Tryz.prog 31 [.one (pl c.p), .agg [pl ([-q.num, (q.den : Int)]), sg q.num, mg q.num, sg ((q.den : Int)), mg ((q.den : Int)), sg q.num, mg q.num, sg ((q.den : Int)), mg ((q.den : Int))]] _ by rw [hz]; exact d_germ_NextK hzs) rfl) ?_
  refine w_ (p_move rfl rfl) ?_
  refine w_ (p_extract rfl rfl rfl) ?_
  refine w_ (p_extract rfl rfl rfl) ?_
  refine w_ (p_fieldOw fa_75_3 rfl rfl) ?_
  refine a_storeOw 0 Tryz.sizeOf44 rfl rfl rfl rfl rfl rfl rfl ?_
  refine w_ (p_fieldOw fa_75_2 rfl rfl) ?_
  refine a_storeOw 0 Tryz.sizeOf4 rfl rfl rfl rfl rfl rfl rfl ?_
  refine aw_nil ?_
  refine ac_reg ?_
  refine w_ (p_fieldOw fa_75_1 rfl rfl) ?_
  refine a_storeOw 0 Tryz.sizeOf4 rfl rfl rfl rfl rfl rfl rfl ?_
  refine aw_nil ?_
  refine ac_reg ?_
  refine w_ (p_move rfl rfl) ?_
  refine w_ (p_loadOw 0 Tryz.isAgg75 Tryz.sizeOf75 rfl rfl rfl rfl rfl) ?_
  refine w_ (p_lit Tryz.runUnderlying47 Tryz.sizeOf75 Tryz.zeroValue75 rfl rfl rfl rfl rfl rfl rfl rfl rfl rfl) ?_
  refine a_append (ls2 := ((ws.take (i + 1)).map ofV)) (m2 := i + 1) 1 Tryz.runUnderlying47 Tryz.runUnderlying47 Tryz.typeInfo75 rfl rfl Tryz.sizeOf75 Tryz.zeroValue75 rfl rfl rfl rfl rfl rfl rfl (by rw [List.length_map, List.length_take]; omega) (one_w rfl) (one_f rfl) (by show _ + 1 < _; omega) (by rw [List.take_of_length_le (by rw [List.length_map, List.length_take]; omega), List.take_succ, hc, List.map_append]; rfl) (rfl) fun r3 => ?_
  refine w_ (p_assign rfl rfl) ?_
  refine aw_nil ?_
  refine ac_reg ?_
  refine w_ (p_add (r := ((i + 1 : Nat) : Int)) rfl rfl (i64_is (by omega) (by omega)) rfl) ?_
  refine w_ (p_move rfl rfl) ?_
  refine aw_pick [0, 2, 3, 11, 12, 13] rfl ?_
  refine aw_drop 1 rfl ?_
  refine aw_nil ?_
  refine ⟨_, ?_, i + 1, r3, by omega, rfl, rfl, rfl⟩
  omega
 have hi : ws.take i = ws := List.take_of_length_le (by omega)
 refine ac_pub (L2 := _) 0 [2] rfl (allAre1 rfl) (by rw [List.length_map, hi]; omega) (by rw [List.length_map, hi]; omega) rfl ?_
 refine ac_slotEq 2 (y := .one (vts ws)) rfl (by rw [hi]; rfl) ?_
 refine ac_seq (ac_reg ?_)
 refine w_ (p_cmp rfl rfl rfl rfl) ?_
 refine aw_nil ?_
 refine ac_seq ?_
 refine ac_f rfl (decide_eq_false (by omega)) ?_
 refine ac_exit ?_
 repeat refine seqQ_exit ?_
 refine blkQ_here ?_
 refine ac_reg ?_
 refine w_ (p_move rfl rfl) ?_
 refine w_ (p_move rfl rfl) ?_
 refine w_ (p_nilCheck rfl rfl rfl) ?_
 refine w_ (p_fieldOw fa_49_2 rfl rfl) ?_
 refine a_storeOw 1 Tryz.sizeOf47 rfl rfl rfl rfl rfl rfl rfl ?_
 refine aw_nil ?_
 -- end
 exact ⟨_, [0], _, rvs_0 Tryz.results17 , rfl, ⟨rfl, rfl⟩⟩
theorem d_alg_Least0  : Does Tryz.prog 18 [.one (.row ([]))] (.tup [.agg [.row ([]), .bool false, .row ([]), .bool false, .row ([]), .bool false, .row ([]), .bool false, .row ([])], .one (.bool false)]) := by
 refine does_ (n := 29) Tryz.func18 rfl Tryz.ntmps18 rfl ?_
 refine ac_seq (ac_reg ?_)
 refine a_alloc Tryz.zeroValue44 rfl rfl fun g1 => ?_
 refine w_ (p_assign rfl rfl) ?_
 refine aw_nil ?_
 refine ac_seq (ac_seq (ac_reg ?_))
 refine w_ (p_move rfl rfl) ?_
 refine w_ (p_len (m := ([]).length) Tryz.runUnderlying68 rfl (rfl) rfl) ?_
 refine w_ (p_cmp rfl rfl rfl rfl) ?_
 refine aw_nil ?_
 refine ac_t rfl (rfl) ?_
 refine ac_seq (ac_reg ?_)
 refine w_ (p_build (bd_44) rfl rfl rfl rfl) ?_
 refine a_storeOw 0 Tryz.sizeOf44 rfl rfl rfl rfl rfl rfl rfl ?_
 refine aw_blk (ys := [.row ([]), .bool false, .row ([]), .bool false, .row ([]), .bool false, .row ([]), .bool false, .row ([])]) 0 rfl rfl rfl ?_
 refine w_ (p_assign rfl rfl) ?_
 refine aw_nil ?_
 refine ac_ret ?_
 exact retB_2 Tryz.results18 (rv_cell 0 Tryz.isAgg44 Tryz.sizeOf44 rfl rfl rfl rfl rfl) (rv_tmp rfl rfl) (rfl)
set_option maxRecDepth 20000 in
theorem d_kin_NextK {g T : Nat} {ys : List LV} {ev : Int} {q : Rat} {ws : List Ct} (hq : Qs 1073741823 q) (hn : ws.length ≤ 1000000) (hst : StayC ws) : DoesB Tryz.prog 7 [.one (.ow g 0)] [.blk g T ((.bool true) :: (pl ([-q.num, (q.den : Int)])) :: (sg q.num) :: (mg q.num) :: (sg ((q.den : Int))) :: (mg ((q.den : Int))) :: (sg q.num) :: (mg q.num) :: (sg ((q.den : Int))) :: (mg ((q.den : Int))) :: (wts ws) :: (.int .i64 ev) :: ys)] fun r B => r = .tup [.agg [.row ([]), .bool false, .row ([]), .bool false, .row ([]), .bool false, .row ([]), .bool false, .row ([])], .one (.bool false)] ∧ B = [.blk g T ((.bool true) :: (pl ([-q.num, (q.den : Int)])) :: (sg q.num) :: (mg q.num) :: (sg ((q.den : Int))) :: (mg ((q.den : Int))) :: (sg q.num) :: (mg q.num) :: (sg ((q.den : Int))) :: (mg ((q.den : Int))) :: (vts ws) :: (.int .i64 ev) :: ys)] := by
 refine does_ (n := 30) Tryz.func7 rfl Tryz.ntmps7 rfl ?_
 refine ac_seq (ac_reg ?_)
 refine a_alloc Tryz.zeroValue44 rfl rfl fun g1 => ?_
 refine w_ (p_assign rfl rfl) ?_
 refine aw_nil ?_
 refine ac_seq (ac_reg ?_)
 refine w_ (p_move rfl rfl) ?_
 refine aw_front 1 rfl ?_
 refine a_calls (Bin := [.blk g T ((.bool true) :: (pl ([-q.num, (q.den : Int)])) :: (sg q.num) :: (mg q.num) :: (sg ((q.den : Int))) :: (mg ((q.den : Int))) :: (sg q.num) :: (mg q.num) :: (sg ((q.den : Int))) :: (mg ((q.den : Int))) :: (wts ws) :: (.int .i64 ev) :: ys)]) Tryz.func17 rfl rfl rfl rfl (d_kin_lookK hq hn hst) rfl fun r_ B_ hr_ => ?_
 obtain ⟨rfl, rfl⟩ := hr_
 refine aw_nil ?_
 refine ac_seq (ac_reg ?_)
 refine w_ (p_assign rfl rfl) ?_
 refine aw_nil ?_
 refine ac_seq (ac_seq (ac_reg ?_))
 refine w_ (p_move rfl rfl) ?_
 refine w_ (p_nilCheck rfl rfl rfl) ?_
 refine w_ (p_fieldOw fa_49_2 rfl rfl) ?_
 refine w_ (p_loadOw 0 Tryz.isAgg47 Tryz.sizeOf47 rfl rfl rfl rfl rfl) ?_
 refine w_ (p_len (m := ws.length) Tryz.runUnderlying47 rfl (rlen_vts _) rfl) ?_
 refine w_ (p_move rfl rfl) ?_
 refine aw_nil ?_
 refine ac_block ?_
 refine ac_pick [2, 4, 12, 13, 14] rfl ?_
 refine ac_front 0 rfl ?_
 refine ac_front 1 rfl ?_
 refine ac_loop (fun m L B => ∃ i, i ≤ ws.length ∧ m = ws.length - i ∧ L = [(2, .one (.ow g1 0)), (4, .one (.nils)), (12, .one (vts ws)), (13, .one (.int .i64 (((ws.length : Nat) : Int)))), (14, .one (.int .i64 (((i : Nat) : Int))))] ∧ B = [.blk g1 44 [.nils, .bool false, .nils, .bool false, .nils, .bool false, .nils, .bool false, .nils], .blk g T ((.bool true) :: (pl ([-q.num, (q.den : Int)])) :: (sg q.num) :: (mg q.num) :: (sg ((q.den : Int))) :: (mg ((q.den : Int))) :: (sg q.num) :: (mg q.num) :: (sg ((q.den : Int))) :: (mg ((q.den : Int))) :: (vts ws) :: (.int .i64 ev) :: ys)]) (m := _) ⟨0, Nat.zero_le _, rfl, rfl, rfl⟩ ?_
 rintro m L B ⟨i, hp0, hm, rfl, rfl⟩
 by_cases hlt : i < ws.length
 ·obtain ⟨c, hc⟩ : ∃ c, ws[i]? = some c := ⟨_, List.getElem?_eq_getElem hlt⟩
  refine ac_seq (ac_reg ?_)
  refine w_ (p_cmp rfl rfl rfl rfl) ?_
  refine aw_nil ?_
  refine ac_seq ?_
  refine ac_t rfl (decide_eq_true (by omega)) ?_
  refine ac_skip ?_
  refine ac_seq (ac_block (ac_seq (ac_reg ?_)))
  refine w_ (p_index (i) Tryz.runUnderlying47 Tryz.sizeOf75 rfl rfl (rfl) (map_get hc) rfl rfl) ?_
  refine w_ (p_loadSh Tryz.isAgg75 Tryz.sizeOf75 rfl rfl rfl rfl) ?_
  refine a_alloc Tryz.zeroValue75 rfl rfl fun g2 => ?_
  refine a_storeOw 0 Tryz.sizeOf75 rfl rfl rfl rfl rfl rfl rfl ?_
  refine aw_nil ?_
  refine ac_seq (ac_reg ?_)
  refine w_ (p_fieldOw fa_75_2 rfl rfl) ?_
  refine w_ (p_loadOw 0 Tryz.isAgg4 Tryz.sizeOf4 rfl rfl rfl rfl rfl) ?_
  refine aw_nil ?_
  refine ac_f rfl (rfl) ?_
  refine ac_skip ?_
  refine ac_reg ?_
  refine w_ (p_add (r := ((i + 1 : Nat) : Int)) rfl rfl (i64_is (by omega) (by omega)) rfl) ?_
  refine w_ (p_move rfl rfl) ?_
  refine aw_pick [2, 4, 12, 13, 14] rfl ?_
  refine aw_drop 0 rfl ?_
  refine aw_nil ?_
  refine ⟨_, ?_, i + 1, by omega, rfl, rfl, rfl⟩
  omega
 skip
 refine ac_seq (ac_reg ?_)
 refine w_ (p_cmp rfl rfl rfl rfl) ?_
 refine aw_nil ?_
 refine ac_seq ?_
 refine ac_f rfl (decide_eq_false (by omega)) ?_
 refine ac_exit ?_
 repeat refine seqQ_exit ?_
 refine blkQ_here ?_
 refine ac_seq (ac_reg ?_)
 refine w_ (p_move rfl rfl) ?_
 refine w_ (p_call Tryz.func18 rfl rfl rfl rfl (d_alg_Least0) rfl) ?_
 refine w_ (p_extract rfl rfl rfl) ?_
 refine w_ (p_extract rfl rfl rfl) ?_
 refine a_storeOw 0 Tryz.sizeOf44 rfl rfl rfl rfl rfl rfl rfl ?_
 refine w_ (p_assign rfl rfl) ?_
 refine aw_nil ?_
 refine ac_ret ?_
 exact ⟨_, [0], _, rvs_2 Tryz.results7 (rv_cell 0 Tryz.isAgg44 Tryz.sizeOf44 rfl rfl rfl rfl rfl) (rv_tmp rfl rfl), rfl, ⟨rfl, rfl⟩⟩
end Orr
