/- AMeshB ALaw22 Read Last -/
import Derived.Test.YtaffmkgbfgjgeaaGreatPart09
import Derived.Test.YtaffmkgbfgjgeaaGreatPart08
import Derived.Deep.Slices
import Derived.ProofKit
import Derived.OpenShut
import Derived.WideKeyArgs
import Derived.SizedLaws
set_option linter.all false

namespace Orr
open Go Go.Proofs
theorem pairs_at {w : List Pt} {i j : Nat} {b : Pt} (h : (w.drop (i + 1))[j]? = some b) : pairsK (j + 1) (w.drop (i + 1)) = pairsK j (w.drop (i + 1)) ++ (w.drop (i + j + 2)).map (fun y => (b, y)) := by
 rw [pairsK_next _ _ _ h, List.drop_drop]
 rw [show i + 1 + (j + 1) = i + j + 2 from by omega]
theorem tri_at {w : List Pt} {i j : Nat} {b : Pt} (h : (w.drop (i + 1))[j]? = some b) : triK (j + 1) (w.drop (i + 1)) = triK j (w.drop (i + 1)) ++ (pairsOf (w.drop (i + j + 2))).map (fun y => (b, y)) := by
 rw [triK_next _ _ _ h, List.drop_drop]
 rw [show i + 1 + (j + 1) = i + j + 2 from by omega]
theorem pairs_at2 {w : List Pt} {i j k : Nat} {c : Pt} (h : (w.drop (i + j + 2))[k]? = some c) : pairsK (k + 1) (w.drop (i + j + 2)) = pairsK k (w.drop (i + j + 2)) ++ (w.drop (i + j + k + 3)).map (fun y => (c, y)) := by
 rw [pairsK_next _ _ _ h, List.drop_drop]
 rw [show i + j + 2 + (k + 1) = i + j + k + 3 from by omega]
theorem fm_t {α β : Type} {X : List β} {l : List α} {f : α → β} {p : β → Bool} {c : α} (h : p (f c) = true) : X ++ ((l ++ [c]).map f).filter p = (X ++ (l.map f).filter p) ++ [f c] := by
 rw [List.map_append, List.filter_append, ← List.append_assoc]
 simp [h]
theorem fm_f {α β : Type} {l : List α} {f : α → β} {p : β → Bool} {c : α} (h : p (f c) = false) : ((l ++ [c]).map f).filter p = (l.map f).filter p := by
 rw [List.map_append, List.filter_append]
 simp [h]
theorem turnM_snoc' {q : Rat} {ps : List P3} {a b c : Pt} {M : Ents} (h : M = turnM q ps) : putM M [a.id, b.id, c.id] (.int .i64 (mkOrient q a b c).want) = turnM q (ps ++ [(a, (b, c))]) := by rw [turnM_snoc, h]; rfl
theorem fullM_snoc' {q : Rat} {T : Ents} {ps : List P4} {a b c d : Pt} {F : Ents} (h : F = fullM q T ps) : fillM T (mkCircle q a b c d).want [a.id, b.id, c.id, d.id] F = fullM q T (ps ++ [(a, (b, (c, d)))]) := by rw [fullM_snoc, h]; rfl
set_option maxRecDepth 20000 in
set_option maxHeartbeats 4000000 in
theorem d_delaunay_build {g : Nat} {c0 c1 c2 c3 c4 c5 c6 c7 c8 c9 c10 c11 y1 : LV} {l : List Pt} {q : Rat} (hq : Qb q) (hl : GoodP l) (hn : l.length ≤ 10) : DoesB Tryz.prog 131 [.one (.ow g 0), .agg [pl ([-q.num, (q.den : Int)]), sg q.num, mg q.num, sg ((q.den : Int)), mg ((q.den : Int)), sg q.num, mg q.num, sg ((q.den : Int)), mg ((q.den : Int))]] [.blk g 210 [c0, c1, c2, c3, c4, c5, c6, c7, c8, c9, c10, c11, pts l, y1]] fun r B => r = .one (cts ((meshC q l))) ∧ B = [.blk g 210 [c0, c1, c2, c3, c4, c5, c6, c7, c8, c9, c10, c11, pts l, tris ((meshT q l))]] := by
 refine does_ (n := 231) Tryz.func131 rfl Tryz.ntmps131 rfl ?_
 have hgw : GoodP (ways l) := fun a ha => hl a (ways_mem ha)
 have hwl := ways_len l
 ·skip
  refine ac_seq (ac_reg ?_)
  refine w_ (p_boxS rfl rfl rfl rfl) ?_
  refine w_ (p_assign rfl rfl) ?_
  refine aw_nil ?_
  refine ac_seq (ac_reg ?_)
  refine w_ (p_move rfl rfl) ?_
  refine w_ (p_nilCheck rfl rfl rfl) ?_
  refine w_ (p_fieldOw fa_210_1 rfl rfl) ?_
  refine w_ (p_loadOw 0 Tryz.isAgg106 Tryz.sizeOf106 rfl rfl rfl rfl rfl) ?_
  refine w_ (p_call Tryz.func208 rfl rfl rfl rfl (d_crowd_Ways (fun a ha => ⟨(hl a ha).1, (hl a ha).2.mono (by omega) (by omega)⟩) (by omega)) rfl) ?_
  refine w_ (p_assign rfl rfl) ?_
  refine aw_nil ?_
  refine ac_seq (ac_reg ?_)
  refine w_ (p_assign rfl rfl) ?_
  refine aw_nil ?_
  refine ac_seq (ac_reg ?_)
  refine a_makeMap rfl fun g1 => ?_
  refine w_ (p_assign rfl rfl) ?_
  refine aw_nil ?_
  refine ac_seq (ac_seq (ac_reg ?_))
  refine w_ (p_move rfl rfl) ?_
  refine w_ (p_len (m := ((ways l)).length) Tryz.runUnderlying22 rfl (rlen_pts _) rfl) ?_
  refine w_ (p_move rfl rfl) ?_
  refine aw_nil ?_
  refine ac_block ?_
  refine ac_ownNil [6] 166 7 rfl (allAre1 rfl) rfl ?_
  refine ac_pick [0, 3, 5, 7, 40, 41, 6, 42] rfl ?_
  refine ac_loop (fun m L B => ∃ i r ps O M, i ≤ (ways l).length ∧ ps = triK i (ways l) ∧ O = ps.map (oriC q) ∧ M = turnM q ps ∧ O.length ≤ i * 100 ∧ m = (ways l).length - i ∧ L = [(0, .one (.ow g 0)), (3, .one (.sh [pl ([-q.num, (q.den : Int)]), sg q.num, mg q.num, sg ((q.den : Int)), mg ((q.den : Int)), sg q.num, mg q.num, sg ((q.den : Int)), mg ((q.den : Int))])), (5, .one (pts ((ways l)))), (7, .one (.omap g1)), (40, .one (pts ((ways l)))), (41, .one (.int .i64 (((((ways l)).length : Nat) : Int)))), (6, .one (.orow r 7 0 O.length)), (42, .one (.int .i64 (((i : Nat) : Int))))] ∧ B = [.row r 166 7 (O.map ofCt), .mpb g1 M, .blk g 210 [c0, c1, c2, c3, c4, c5, c6, c7, c8, c9, c10, c11, pts l, y1]]) (m := _) ⟨0, none, [], [], [], Nat.zero_le _, rfl, rfl, rfl, by simp, rfl, rfl, rfl⟩ ?_
  rintro m L B ⟨i, r, ps, O, M, ea0, ea1, ea2, ea3, ea4, hm, rfl, rfl⟩
  by_cases h1 : i < (ways l).length
  ·obtain ⟨a, ha⟩ : ∃ a, (ways l)[i]? = some a := ⟨_, List.getElem?_eq_getElem h1⟩
   have hag := hgw a (List.mem_of_getElem? ha)
   have hd1 : ((ways l).drop (i + 1)).length = (ways l).length - (i + 1) := List.length_drop ..
   refine ac_seq (ac_reg ?_)
   refine w_ (p_cmp rfl rfl rfl rfl) ?_
   refine aw_nil ?_
   refine ac_seq ?_
   refine ac_t rfl (decide_eq_true (by omega)) ?_
   refine ac_skip ?_
   refine ac_seq (ac_block (ac_seq (ac_reg ?_)))
   refine w_ (p_move rfl rfl) ?_
   refine w_ (p_index (i) Tryz.runUnderlying22 Tryz.sizeOf76 rfl rfl (rfl) (map_get ha) rfl rfl) ?_
   refine w_ (p_loadSh Tryz.isAgg76 Tryz.sizeOf76 rfl rfl rfl rfl) ?_
   refine a_alloc Tryz.zeroValue76 rfl rfl fun g2 => ?_
   refine w_ (p_assign rfl rfl) ?_
   refine a_storeOw 0 Tryz.sizeOf76 rfl rfl rfl rfl rfl rfl rfl ?_
   refine aw_nil ?_
   refine ac_seq (ac_reg ?_)
   refine w_ (p_move rfl rfl) ?_
   refine w_ (p_move rfl rfl) ?_
   refine w_ (p_add (r := ((i + 1 : Nat) : Int)) rfl rfl (i64_is (by omega) (by omega)) rfl) ?_
   refine w_ (p_sliceLo (i + 1) Tryz.runUnderlying22 Tryz.sizeOf76 rfl rfl rfl (by rw [List.length_map]; omega) (map_w (ways l) (fun _ => rfl)) (l' := ((ways l).drop (i + 1)).map ofPt) (by rw [List.map_drop]) rfl) ?_
   refine w_ (p_len (m := (((ways l).drop (i + 1))).length) Tryz.runUnderlying22 rfl (rlen_pts _) rfl) ?_
   refine w_ (p_move rfl rfl) ?_
   refine aw_nil ?_
   refine ac_block ?_
   refine ac_pick [0, 3, 5, 7, 40, 41, 8, 9, 42, 50, 51, 6, 52] rfl ?_
   refine ac_front 3 rfl ?_
   refine ac_front 1 rfl ?_
   refine ac_front 3 rfl ?_
   refine ac_front 3 rfl ?_
   refine ac_loop (fun m L B => ∃ j r2 ps2 O2 M2, j ≤ ((ways l).drop (i + 1)).length ∧ ps2 = ps ++ (pairsK j ((ways l).drop (i + 1))).map (fun m => (a, m)) ∧ O2 = ps2.map (oriC q) ∧ M2 = turnM q ps2 ∧ O2.length ≤ O.length + j * 10 ∧ m = ((ways l).drop (i + 1)).length - j ∧ L = [(0, .one (.ow g 0)), (3, .one (.sh [pl ([-q.num, (q.den : Int)]), sg q.num, mg q.num, sg ((q.den : Int)), mg ((q.den : Int)), sg q.num, mg q.num, sg ((q.den : Int)), mg ((q.den : Int))])), (5, .one (pts ((ways l)))), (7, .one (.omap g1)), (40, .one (pts ((ways l)))), (41, .one (.int .i64 (((((ways l)).length : Nat) : Int)))), (8, .one (.int .i64 (((i : Nat) : Int)))), (9, .one (.ow g2 0)), (42, .one (.int .i64 (((i : Nat) : Int)))), (50, .one (pts (((ways l).drop (i + 1))))), (51, .one (.int .i64 ((((((ways l).drop (i + 1))).length : Nat) : Int)))), (6, .one (.orow r2 7 0 O2.length)), (52, .one (.int .i64 (((j : Nat) : Int))))] ∧ B = [.row r2 166 7 (O2.map ofCt), .mpb g1 M2, .blk g2 76 [pl a.c.x, pl a.c.y, sg a.c.d, mg a.c.d, .int .i64 a.id], .blk g 210 [c0, c1, c2, c3, c4, c5, c6, c7, c8, c9, c10, c11, pts l, y1]]) (m := _) ⟨0, r, ps, O, M, Nat.zero_le _, (List.append_nil _).symm, ea2, ea3, Nat.le_refl _, rfl, rfl, rfl⟩ ?_
   rintro m L B ⟨j, r2, ps2, O2, M2, eb0, eb1, eb2, eb3, eb4, hm, rfl, rfl⟩
   by_cases h2 : j < ((ways l).drop (i + 1)).length
   ·obtain ⟨b, hb⟩ : ∃ b, ((ways l).drop (i + 1))[j]? = some b := ⟨_, List.getElem?_eq_getElem h2⟩
    have hbg := hgw b (List.mem_of_mem_drop (List.mem_of_getElem? hb))
    have hd2 : ((ways l).drop (i + j + 2)).length = (ways l).length - (i + j + 2) := List.length_drop ..
    refine ac_seq (ac_reg ?_)
    refine w_ (p_cmp rfl rfl rfl rfl) ?_
    refine aw_nil ?_
    refine ac_seq ?_
    refine ac_t rfl (decide_eq_true (by omega)) ?_
    refine ac_skip ?_
    refine ac_seq (ac_block (ac_seq (ac_reg ?_)))
    refine w_ (p_move rfl rfl) ?_
    refine w_ (p_index (j) Tryz.runUnderlying22 Tryz.sizeOf76 rfl rfl (rfl) (map_get hb) rfl rfl) ?_
    refine w_ (p_loadSh Tryz.isAgg76 Tryz.sizeOf76 rfl rfl rfl rfl) ?_
    refine a_alloc Tryz.zeroValue76 rfl rfl fun g3 => ?_
    refine w_ (p_assign rfl rfl) ?_
    refine a_storeOw 0 Tryz.sizeOf76 rfl rfl rfl rfl rfl rfl rfl ?_
    refine aw_nil ?_
    refine ac_seq (ac_reg ?_)
    refine w_ (p_move rfl rfl) ?_
    refine w_ (p_move rfl rfl) ?_
    refine w_ (p_move rfl rfl) ?_
    refine w_ (p_add (r := ((i + j : Nat) : Int)) rfl rfl (i64_is (by omega) (by omega)) rfl) ?_
    refine w_ (p_add (r := (((i + j) + 2 : Nat) : Int)) rfl rfl (i64_is (by omega) (by omega)) rfl) ?_
    refine w_ (p_sliceLo (i + j + 2) Tryz.runUnderlying22 Tryz.sizeOf76 rfl rfl rfl (by rw [List.length_map]; omega) (map_w (ways l) (fun _ => rfl)) (l' := ((ways l).drop (i + j + 2)).map ofPt) (by rw [List.map_drop]) rfl) ?_
    refine w_ (p_len (m := (((ways l).drop (i + j + 2))).length) Tryz.runUnderlying22 rfl (rlen_pts _) rfl) ?_
    refine w_ (p_move rfl rfl) ?_
    refine aw_nil ?_
    refine ac_block ?_
    refine ac_pick [0, 3, 5, 7, 40, 41, 8, 9, 42, 50, 51, 10, 11, 52, 62, 63, 6, 64] rfl ?_
    refine ac_front 4 rfl ?_
    refine ac_front 1 rfl ?_
    refine ac_front 4 rfl ?_
    refine ac_front 4 rfl ?_
    refine ac_front 4 rfl ?_
    refine ac_loop (fun m L B => ∃ k r3 ps3 O3 M3, k ≤ ((ways l).drop (i + j + 2)).length ∧ ps3 = ps2 ++ (((ways l).drop (i + j + 2)).take k).map (fun y => (a, (b, y))) ∧ O3 = ps3.map (oriC q) ∧ M3 = turnM q ps3 ∧ O3.length ≤ O2.length + k ∧ m = ((ways l).drop (i + j + 2)).length - k ∧ L = [(0, .one (.ow g 0)), (3, .one (.sh [pl ([-q.num, (q.den : Int)]), sg q.num, mg q.num, sg ((q.den : Int)), mg ((q.den : Int)), sg q.num, mg q.num, sg ((q.den : Int)), mg ((q.den : Int))])), (5, .one (pts ((ways l)))), (7, .one (.omap g1)), (40, .one (pts ((ways l)))), (41, .one (.int .i64 (((((ways l)).length : Nat) : Int)))), (8, .one (.int .i64 (((i : Nat) : Int)))), (9, .one (.ow g2 0)), (42, .one (.int .i64 (((i : Nat) : Int)))), (50, .one (pts (((ways l).drop (i + 1))))), (51, .one (.int .i64 ((((((ways l).drop (i + 1))).length : Nat) : Int)))), (10, .one (.int .i64 (((j : Nat) : Int)))), (11, .one (.ow g3 0)), (52, .one (.int .i64 (((j : Nat) : Int)))), (62, .one (pts (((ways l).drop (i + j + 2))))), (63, .one (.int .i64 ((((((ways l).drop (i + j + 2))).length : Nat) : Int)))), (6, .one (.orow r3 7 0 O3.length)), (64, .one (.int .i64 (((k : Nat) : Int))))] ∧ B = [.row r3 166 7 (O3.map ofCt), .mpb g1 M3, .blk g2 76 [pl a.c.x, pl a.c.y, sg a.c.d, mg a.c.d, .int .i64 a.id], .blk g3 76 [pl b.c.x, pl b.c.y, sg b.c.d, mg b.c.d, .int .i64 b.id], .blk g 210 [c0, c1, c2, c3, c4, c5, c6, c7, c8, c9, c10, c11, pts l, y1]]) (m := _) ⟨0, r2, ps2, O2, M2, Nat.zero_le _, by simp, eb2, eb3, Nat.le_refl _, rfl, rfl, rfl⟩ ?_
    rintro m L B ⟨k, r3, ps3, O3, M3, ec0, ec1, ec2, ec3, ec4, hm, rfl, rfl⟩
    by_cases h3 : k < ((ways l).drop (i + j + 2)).length
    ·obtain ⟨c, hc⟩ : ∃ c, ((ways l).drop (i + j + 2))[k]? = some c := ⟨_, List.getElem?_eq_getElem h3⟩
     have hcg := hgw c (List.mem_of_mem_drop (List.mem_of_getElem? hc))
     refine ac_seq (ac_reg ?_)
     refine w_ (p_cmp rfl rfl rfl rfl) ?_
     refine aw_nil ?_
     refine ac_seq ?_
     refine ac_t rfl (decide_eq_true (by omega)) ?_
     refine ac_skip ?_
     refine ac_seq (ac_block (ac_seq (ac_reg ?_)))
     refine w_ (p_index (k) Tryz.runUnderlying22 Tryz.sizeOf76 rfl rfl (rfl) (map_get hc) rfl rfl) ?_
     refine w_ (p_loadSh Tryz.isAgg76 Tryz.sizeOf76 rfl rfl rfl rfl) ?_
     refine a_alloc Tryz.zeroValue76 rfl rfl fun g4 => ?_
     refine a_storeOw 0 Tryz.sizeOf76 rfl rfl rfl rfl rfl rfl rfl ?_
     refine aw_nil ?_
     refine ac_seq (ac_reg ?_)
     refine w_ (p_loadSh Tryz.isAgg59 Tryz.sizeOf59 rfl rfl rfl rfl) ?_
     refine w_ (p_loadOw 3 Tryz.isAgg76 Tryz.sizeOf76 rfl rfl rfl rfl rfl) ?_
     refine w_ (p_loadOw 4 Tryz.isAgg76 Tryz.sizeOf76 rfl rfl rfl rfl rfl) ?_
     refine w_ (p_loadOw 0 Tryz.isAgg76 Tryz.sizeOf76 rfl rfl rfl rfl rfl) ?_
     refine w_ (p_lit Tryz.runUnderlying22 Tryz.sizeOf76 Tryz.zeroValue76 rfl rfl rfl rfl rfl rfl rfl rfl rfl rfl) ?_
     refine w_ (p_call Tryz.func201 rfl rfl rfl rfl (d_cert_Orient (hag.1) (hbg.1) (hcg.1) (hag.2) (hbg.2) (hcg.2) (hq)) rfl) ?_
     refine w_ (p_move rfl rfl) ?_
     refine w_ (p_extract rfl rfl rfl) ?_
     refine w_ (p_extract rfl rfl rfl) ?_
     refine a_alloc Tryz.zeroValue166 rfl rfl fun g5 => ?_
     refine a_storeOw 0 Tryz.sizeOf166 rfl rfl rfl rfl rfl rfl rfl ?_
     refine w_ (p_assign rfl rfl) ?_
     refine aw_nil ?_
     refine ac_seq (ac_reg ?_)
     refine w_ (p_move rfl rfl) ?_
     refine w_ (p_loadOw 0 Tryz.isAgg166 Tryz.sizeOf166 rfl rfl rfl rfl rfl) ?_
     refine w_ (p_lit Tryz.runUnderlying48 Tryz.sizeOf166 Tryz.zeroValue166 rfl rfl rfl rfl rfl rfl rfl rfl rfl rfl) ?_
     refine a_append (ls2 := ((O3 ++ [mkOrient q a b c]).map ofCt)) (m2 := (O3 ++ [mkOrient q a b c]).length) 2 Tryz.runUnderlying48 Tryz.runUnderlying48 Tryz.typeInfo166 rfl rfl Tryz.sizeOf166 Tryz.zeroValue166 rfl rfl rfl rfl rfl rfl rfl (by rw [List.length_map]; exact Nat.le_refl _) (one_w rfl) (one_f rfl) (by show _ + 1 < _; omega) (by rw [List.take_of_length_le (by rw [List.length_map]; exact Nat.le_refl _)]; exact snoc_map ofCt _ _) (by rw [List.length_append]; rfl) fun r6 => ?_
     refine w_ (p_assign rfl rfl) ?_
     refine aw_nil ?_
     refine ac_reg ?_
     refine w_ (p_move rfl rfl) ?_
     refine w_ (p_fieldOw fa_76_1 rfl rfl) ?_
     refine w_ (p_loadOw 4 Tryz.isAgg3 Tryz.sizeOf3 rfl rfl rfl rfl rfl) ?_
     refine w_ (p_fieldOw fa_76_1 rfl rfl) ?_
     refine w_ (p_loadOw 5 Tryz.isAgg3 Tryz.sizeOf3 rfl rfl rfl rfl rfl) ?_
     refine w_ (p_fieldOw fa_76_1 rfl rfl) ?_
     refine w_ (p_loadOw 2 Tryz.isAgg3 Tryz.sizeOf3 rfl rfl rfl rfl rfl) ?_
     refine w_ (p_build (bd_79) rfl rfl rfl rfl) ?_
     refine w_ (p_fieldOw fa_166_2 rfl rfl) ?_
     refine w_ (p_loadOw 1 Tryz.isAgg3 Tryz.sizeOf3 rfl rfl rfl rfl rfl) ?_
     refine a_mapUpdate (ks := [a.id, b.id, c.id]) (v := .int .i64 (((mkOrient q a b c)).want)) 3 mapT_270 rfl rfl rfl rfl rfl rfl ?_
     refine aw_nil ?_
     refine ac_reg ?_
     refine w_ (p_add (r := ((k + 1 : Nat) : Int)) rfl rfl (i64_is (by omega) (by omega)) rfl) ?_
     refine w_ (p_move rfl rfl) ?_
     refine aw_pick [0, 3, 5, 7, 40, 41, 8, 9, 42, 50, 51, 10, 11, 52, 62, 63, 6, 64] rfl ?_
     refine aw_drop 2 rfl ?_
     refine aw_drop 2 rfl ?_
     refine aw_front 4 rfl ?_
     refine aw_front 4 rfl ?_
     refine aw_front 4 rfl ?_
     refine aw_front 3 rfl ?_
     refine aw_front 4 rfl ?_
     refine aw_nil ?_
     refine ⟨_, ?_, k + 1, r6, ps3 ++ [(a, (b, c))], O3 ++ [mkOrient q a b c], (putM M3 [a.id, b.id, c.id] (.int .i64 (((mkOrient q a b c)).want))), by omega, by rw [take_snoc hc, List.map_append, ← List.append_assoc, ← ec1]; rfl, by rw [List.map_append, ← ec2]; rfl, turnM_snoc' ec3, by rw [List.length_append]; show O3.length + 1 ≤ _; omega, rfl, rfl, rfl⟩
     omega
    ·have hk2 : ((ways l).drop (i + j + 2)).take k = ((ways l).drop (i + j + 2)) := List.take_of_length_le (by omega)
     refine ac_seq (ac_reg ?_)
     refine w_ (p_cmp rfl rfl rfl rfl) ?_
     refine aw_nil ?_
     refine ac_seq ?_
     refine ac_f rfl (decide_eq_false (by omega)) ?_
     refine ac_exit ?_
     repeat refine seqQ_exit ?_
     refine blkQ_here ?_
     refine ac_reg ?_
     refine w_ (p_add (r := ((j + 1 : Nat) : Int)) rfl rfl (i64_is (by omega) (by omega)) rfl) ?_
     refine w_ (p_move rfl rfl) ?_
     refine aw_pick [0, 3, 5, 7, 40, 41, 8, 9, 42, 50, 51, 6, 52] rfl ?_
     refine aw_drop 3 rfl ?_
     refine aw_nil ?_
     refine ⟨_, ?_, j + 1, r3, ps3, O3, M3, by omega, by rw [ec1, eb1, pairs_at hb, hk2, List.map_append, List.append_assoc, List.map_map]; rfl, ec2, ec3, by omega, rfl, rfl, rfl⟩
     omega
   ·have hj2 : j = ((ways l).drop (i + 1)).length := by omega
    refine ac_seq (ac_reg ?_)
    refine w_ (p_cmp rfl rfl rfl rfl) ?_
    refine aw_nil ?_
    refine ac_seq ?_
    refine ac_f rfl (decide_eq_false (by omega)) ?_
    refine ac_exit ?_
    repeat refine seqQ_exit ?_
    refine blkQ_here ?_
    refine ac_reg ?_
    refine w_ (p_add (r := ((i + 1 : Nat) : Int)) rfl rfl (i64_is (by omega) (by omega)) rfl) ?_
    refine w_ (p_move rfl rfl) ?_
    refine aw_pick [0, 3, 5, 7, 40, 41, 6, 42] rfl ?_
    refine aw_drop 2 rfl ?_
    refine aw_nil ?_
    refine ⟨_, ?_, i + 1, r2, ps2, O2, M2, by omega, by rw [eb1, ea1, triK_next _ _ _ ha, hj2]; rfl, eb2, eb3, by omega, rfl, rfl, rfl⟩
    omega
  ·have hpt : ps = triples (ways l) := by rw [ea1, show i = (ways l).length from by omega]; rfl
   have hO : O = (triples (ways l)).map (oriC q) := by rw [ea2, hpt]
   have hM : M = turnM q (triples (ways l)) := by rw [ea3, hpt]
   have h_M : IntM M := by rw [hM]; exact intM_turn _ _
   have hOl : O.length ≤ 1000 := by omega
   refine ac_seq (ac_reg ?_)
   refine w_ (p_cmp rfl rfl rfl rfl) ?_
   refine aw_nil ?_
   refine ac_seq ?_
   refine ac_f rfl (decide_eq_false (by omega)) ?_
   refine ac_exit ?_
   repeat refine seqQ_exit ?_
   refine blkQ_here ?_
   refine ac_seq (ac_reg ?_)
   refine a_makeMap rfl fun g7 => ?_
   refine w_ (p_assign rfl rfl) ?_
   refine aw_nil ?_
   refine ac_seq (ac_seq (ac_reg ?_))
   refine w_ (p_move rfl rfl) ?_
   refine w_ (p_len (m := ((ways l)).length) Tryz.runUnderlying22 rfl (rlen_pts _) rfl) ?_
   refine w_ (p_move rfl rfl) ?_
   refine aw_nil ?_
   refine ac_block ?_
   refine ac_pick [0, 5, 7, 3, 16, 95, 96, 6, 97] rfl ?_
   refine ac_front 3 rfl ?_
   refine ac_front 3 rfl ?_
   refine ac_front 2 rfl ?_
   refine ac_front 3 rfl ?_
   refine ac_loop (fun m L B => ∃ i s1 qs1 P1 F1, i ≤ (ways l).length ∧ qs1 = quaK i (ways l) ∧ P1 = (triples (ways l)).map (oriC q) ++ qs1.map (cirC q) ∧ F1 = fullM q M qs1 ∧ P1.length ≤ 1000 + i * 1000 ∧ m = (ways l).length - i ∧ L = [(0, .one (.ow g 0)), (5, .one (pts ((ways l)))), (7, .one (.omap g1)), (3, .one (.sh [pl ([-q.num, (q.den : Int)]), sg q.num, mg q.num, sg ((q.den : Int)), mg ((q.den : Int)), sg q.num, mg q.num, sg ((q.den : Int)), mg ((q.den : Int))])), (16, .one (.omap g7)), (95, .one (pts ((ways l)))), (96, .one (.int .i64 (((((ways l)).length : Nat) : Int)))), (6, .one (.orow s1 7 0 P1.length)), (97, .one (.int .i64 (((i : Nat) : Int))))] ∧ B = [.row s1 166 7 (P1.map ofCt), .mpb g7 F1, .mpb g1 M, .blk g 210 [c0, c1, c2, c3, c4, c5, c6, c7, c8, c9, c10, c11, pts l, y1]]) (m := _) ⟨0, r, [], O, [], Nat.zero_le _, rfl, by rw [hO]; exact (List.append_nil _).symm, rfl, by omega, rfl, rfl, rfl⟩ ?_
   rintro m L B ⟨i, s1, qs1, P1, F1, fa0, fa1, fa2, fa3, fa4, hm, rfl, rfl⟩
   by_cases h1 : i < (ways l).length
   ·obtain ⟨a, ha⟩ : ∃ a, (ways l)[i]? = some a := ⟨_, List.getElem?_eq_getElem h1⟩
    have hag := hgw a (List.mem_of_getElem? ha)
    have hd1 : ((ways l).drop (i + 1)).length = (ways l).length - (i + 1) := List.length_drop ..
    refine ac_seq (ac_reg ?_)
    refine w_ (p_cmp rfl rfl rfl rfl) ?_
    refine aw_nil ?_
    refine ac_seq ?_
    refine ac_t rfl (decide_eq_true (by omega)) ?_
    refine ac_skip ?_
    refine ac_seq (ac_block (ac_seq (ac_reg ?_)))
    refine w_ (p_move rfl rfl) ?_
    refine w_ (p_index (i) Tryz.runUnderlying22 Tryz.sizeOf76 rfl rfl (rfl) (map_get ha) rfl rfl) ?_
    refine w_ (p_loadSh Tryz.isAgg76 Tryz.sizeOf76 rfl rfl rfl rfl) ?_
    refine a_alloc Tryz.zeroValue76 rfl rfl fun g8 => ?_
    refine w_ (p_assign rfl rfl) ?_
    refine a_storeOw 0 Tryz.sizeOf76 rfl rfl rfl rfl rfl rfl rfl ?_
    refine aw_nil ?_
    refine ac_seq (ac_reg ?_)
    refine w_ (p_move rfl rfl) ?_
    refine w_ (p_move rfl rfl) ?_
    refine w_ (p_add (r := ((i + 1 : Nat) : Int)) rfl rfl (i64_is (by omega) (by omega)) rfl) ?_
    refine w_ (p_sliceLo (i + 1) Tryz.runUnderlying22 Tryz.sizeOf76 rfl rfl rfl (by rw [List.length_map]; omega) (map_w (ways l) (fun _ => rfl)) (l' := ((ways l).drop (i + 1)).map ofPt) (by rw [List.map_drop]) rfl) ?_
    refine w_ (p_len (m := (((ways l).drop (i + 1))).length) Tryz.runUnderlying22 rfl (rlen_pts _) rfl) ?_
    refine w_ (p_move rfl rfl) ?_
    refine aw_nil ?_
    refine ac_block ?_
    refine ac_pick [0, 5, 7, 3, 16, 95, 96, 17, 18, 97, 105, 106, 6, 107] rfl ?_
    refine ac_front 4 rfl ?_
    refine ac_front 1 rfl ?_
    refine ac_front 4 rfl ?_
    refine ac_front 4 rfl ?_
    refine ac_front 4 rfl ?_
    refine ac_loop (fun m L B => ∃ j s2 qs2 P2 F2, j ≤ ((ways l).drop (i + 1)).length ∧ qs2 = qs1 ++ (triK j ((ways l).drop (i + 1))).map (fun m => (a, m)) ∧ P2 = (triples (ways l)).map (oriC q) ++ qs2.map (cirC q) ∧ F2 = fullM q M qs2 ∧ P2.length ≤ P1.length + j * 100 ∧ m = ((ways l).drop (i + 1)).length - j ∧ L = [(0, .one (.ow g 0)), (5, .one (pts ((ways l)))), (7, .one (.omap g1)), (3, .one (.sh [pl ([-q.num, (q.den : Int)]), sg q.num, mg q.num, sg ((q.den : Int)), mg ((q.den : Int)), sg q.num, mg q.num, sg ((q.den : Int)), mg ((q.den : Int))])), (16, .one (.omap g7)), (95, .one (pts ((ways l)))), (96, .one (.int .i64 (((((ways l)).length : Nat) : Int)))), (17, .one (.int .i64 (((i : Nat) : Int)))), (18, .one (.ow g8 0)), (97, .one (.int .i64 (((i : Nat) : Int)))), (105, .one (pts (((ways l).drop (i + 1))))), (106, .one (.int .i64 ((((((ways l).drop (i + 1))).length : Nat) : Int)))), (6, .one (.orow s2 7 0 P2.length)), (107, .one (.int .i64 (((j : Nat) : Int))))] ∧ B = [.row s2 166 7 (P2.map ofCt), .mpb g7 F2, .mpb g1 M, .blk g8 76 [pl a.c.x, pl a.c.y, sg a.c.d, mg a.c.d, .int .i64 a.id], .blk g 210 [c0, c1, c2, c3, c4, c5, c6, c7, c8, c9, c10, c11, pts l, y1]]) (m := _) ⟨0, s1, qs1, P1, F1, Nat.zero_le _, (List.append_nil _).symm, fa2, fa3, Nat.le_refl _, rfl, rfl, rfl⟩ ?_
    rintro m L B ⟨j, s2, qs2, P2, F2, fb0, fb1, fb2, fb3, fb4, hm, rfl, rfl⟩
    by_cases h2 : j < ((ways l).drop (i + 1)).length
    ·obtain ⟨b, hb⟩ : ∃ b, ((ways l).drop (i + 1))[j]? = some b := ⟨_, List.getElem?_eq_getElem h2⟩
     have hbg := hgw b (List.mem_of_mem_drop (List.mem_of_getElem? hb))
     have hd2 : ((ways l).drop (i + j + 2)).length = (ways l).length - (i + j + 2) := List.length_drop ..
     refine ac_seq (ac_reg ?_)
     refine w_ (p_cmp rfl rfl rfl rfl) ?_
     refine aw_nil ?_
     refine ac_seq ?_
     refine ac_t rfl (decide_eq_true (by omega)) ?_
     refine ac_skip ?_
     refine ac_seq (ac_block (ac_seq (ac_reg ?_)))
     refine w_ (p_move rfl rfl) ?_
     refine w_ (p_index (j) Tryz.runUnderlying22 Tryz.sizeOf76 rfl rfl (rfl) (map_get hb) rfl rfl) ?_
     refine w_ (p_loadSh Tryz.isAgg76 Tryz.sizeOf76 rfl rfl rfl rfl) ?_
     refine a_alloc Tryz.zeroValue76 rfl rfl fun g9 => ?_
     refine w_ (p_assign rfl rfl) ?_
     refine a_storeOw 0 Tryz.sizeOf76 rfl rfl rfl rfl rfl rfl rfl ?_
     refine aw_nil ?_
     refine ac_seq (ac_reg ?_)
     refine w_ (p_move rfl rfl) ?_
     refine w_ (p_move rfl rfl) ?_
     refine w_ (p_move rfl rfl) ?_
     refine w_ (p_add (r := ((i + j : Nat) : Int)) rfl rfl (i64_is (by omega) (by omega)) rfl) ?_
     refine w_ (p_add (r := (((i + j) + 2 : Nat) : Int)) rfl rfl (i64_is (by omega) (by omega)) rfl) ?_
     refine w_ (p_sliceLo (i + j + 2) Tryz.runUnderlying22 Tryz.sizeOf76 rfl rfl rfl (by rw [List.length_map]; omega) (map_w (ways l) (fun _ => rfl)) (l' := ((ways l).drop (i + j + 2)).map ofPt) (by rw [List.map_drop]) rfl) ?_
     refine w_ (p_len (m := (((ways l).drop (i + j + 2))).length) Tryz.runUnderlying22 rfl (rlen_pts _) rfl) ?_
     refine w_ (p_move rfl rfl) ?_
     refine aw_nil ?_
     refine ac_block ?_
     refine ac_pick [0, 5, 7, 3, 16, 95, 96, 17, 18, 97, 105, 106, 19, 20, 107, 117, 118, 6, 119] rfl ?_
     refine ac_front 5 rfl ?_
     refine ac_front 1 rfl ?_
     refine ac_front 5 rfl ?_
     refine ac_front 5 rfl ?_
     refine ac_front 5 rfl ?_
     refine ac_front 5 rfl ?_
     refine ac_loop (fun m L B => ∃ k s3 qs3 P3 F3, k ≤ ((ways l).drop (i + j + 2)).length ∧ qs3 = qs2 ++ (pairsK k ((ways l).drop (i + j + 2))).map (fun m => (a, (b, m))) ∧ P3 = (triples (ways l)).map (oriC q) ++ qs3.map (cirC q) ∧ F3 = fullM q M qs3 ∧ P3.length ≤ P2.length + k * 10 ∧ m = ((ways l).drop (i + j + 2)).length - k ∧ L = [(0, .one (.ow g 0)), (5, .one (pts ((ways l)))), (7, .one (.omap g1)), (3, .one (.sh [pl ([-q.num, (q.den : Int)]), sg q.num, mg q.num, sg ((q.den : Int)), mg ((q.den : Int)), sg q.num, mg q.num, sg ((q.den : Int)), mg ((q.den : Int))])), (16, .one (.omap g7)), (95, .one (pts ((ways l)))), (96, .one (.int .i64 (((((ways l)).length : Nat) : Int)))), (17, .one (.int .i64 (((i : Nat) : Int)))), (18, .one (.ow g8 0)), (97, .one (.int .i64 (((i : Nat) : Int)))), (105, .one (pts (((ways l).drop (i + 1))))), (106, .one (.int .i64 ((((((ways l).drop (i + 1))).length : Nat) : Int)))), (19, .one (.int .i64 (((j : Nat) : Int)))), (20, .one (.ow g9 0)), (107, .one (.int .i64 (((j : Nat) : Int)))), (117, .one (pts (((ways l).drop (i + j + 2))))), (118, .one (.int .i64 ((((((ways l).drop (i + j + 2))).length : Nat) : Int)))), (6, .one (.orow s3 7 0 P3.length)), (119, .one (.int .i64 (((k : Nat) : Int))))] ∧ B = [.row s3 166 7 (P3.map ofCt), .mpb g7 F3, .mpb g1 M, .blk g8 76 [pl a.c.x, pl a.c.y, sg a.c.d, mg a.c.d, .int .i64 a.id], .blk g9 76 [pl b.c.x, pl b.c.y, sg b.c.d, mg b.c.d, .int .i64 b.id], .blk g 210 [c0, c1, c2, c3, c4, c5, c6, c7, c8, c9, c10, c11, pts l, y1]]) (m := _) ⟨0, s2, qs2, P2, F2, Nat.zero_le _, by simp [pairsK], fb2, fb3, Nat.le_refl _, rfl, rfl, rfl⟩ ?_
     rintro m L B ⟨k, s3, qs3, P3, F3, fc0, fc1, fc2, fc3, fc4, hm, rfl, rfl⟩
     by_cases h3 : k < ((ways l).drop (i + j + 2)).length
     ·obtain ⟨c, hc⟩ : ∃ c, ((ways l).drop (i + j + 2))[k]? = some c := ⟨_, List.getElem?_eq_getElem h3⟩
      have hcg := hgw c (List.mem_of_mem_drop (List.mem_of_getElem? hc))
      have hd3 : ((ways l).drop (i + j + k + 3)).length = (ways l).length - (i + j + k + 3) := List.length_drop ..
      refine ac_seq (ac_reg ?_)
      refine w_ (p_cmp rfl rfl rfl rfl) ?_
      refine aw_nil ?_
      refine ac_seq ?_
      refine ac_t rfl (decide_eq_true (by omega)) ?_
      refine ac_skip ?_
      refine ac_seq (ac_block (ac_seq (ac_reg ?_)))
      refine w_ (p_move rfl rfl) ?_
      refine w_ (p_index (k) Tryz.runUnderlying22 Tryz.sizeOf76 rfl rfl (rfl) (map_get hc) rfl rfl) ?_
      refine w_ (p_loadSh Tryz.isAgg76 Tryz.sizeOf76 rfl rfl rfl rfl) ?_
      refine a_alloc Tryz.zeroValue76 rfl rfl fun g10 => ?_
      refine w_ (p_assign rfl rfl) ?_
      refine a_storeOw 0 Tryz.sizeOf76 rfl rfl rfl rfl rfl rfl rfl ?_
      refine aw_nil ?_
      refine ac_seq (ac_reg ?_)
      refine w_ (p_move rfl rfl) ?_
      refine w_ (p_move rfl rfl) ?_
      refine w_ (p_move rfl rfl) ?_
      refine w_ (p_add (r := ((i + j : Nat) : Int)) rfl rfl (i64_is (by omega) (by omega)) rfl) ?_
      refine w_ (p_move rfl rfl) ?_
      refine w_ (p_add (r := (((i + j) + k : Nat) : Int)) rfl rfl (i64_is (by omega) (by omega)) rfl) ?_
      refine w_ (p_add (r := ((((i + j) + k) + 3 : Nat) : Int)) rfl rfl (i64_is (by omega) (by omega)) rfl) ?_
      refine w_ (p_sliceLo (i + j + k + 3) Tryz.runUnderlying22 Tryz.sizeOf76 rfl rfl rfl (by rw [List.length_map]; omega) (map_w (ways l) (fun _ => rfl)) (l' := ((ways l).drop (i + j + k + 3)).map ofPt) (by rw [List.map_drop]) rfl) ?_
      refine w_ (p_len (m := (((ways l).drop (i + j + k + 3))).length) Tryz.runUnderlying22 rfl (rlen_pts _) rfl) ?_
      refine w_ (p_move rfl rfl) ?_
      refine aw_nil ?_
      refine ac_block ?_
      refine ac_pick [0, 5, 7, 3, 16, 95, 96, 17, 18, 97, 105, 106, 19, 20, 107, 117, 118, 21, 22, 119, 131, 132, 6, 133] rfl ?_
      refine ac_front 6 rfl ?_
      refine ac_front 1 rfl ?_
      refine ac_front 6 rfl ?_
      refine ac_front 6 rfl ?_
      refine ac_front 6 rfl ?_
      refine ac_front 6 rfl ?_
      refine ac_front 6 rfl ?_
      refine ac_loop (fun m L B => ∃ h s4 qs4 P4 F4, h ≤ ((ways l).drop (i + j + k + 3)).length ∧ qs4 = qs3 ++ (((ways l).drop (i + j + k + 3)).take h).map (fun y => (a, (b, (c, y)))) ∧ P4 = (triples (ways l)).map (oriC q) ++ qs4.map (cirC q) ∧ F4 = fullM q M qs4 ∧ P4.length ≤ P3.length + h ∧ m = ((ways l).drop (i + j + k + 3)).length - h ∧ L = [(0, .one (.ow g 0)), (5, .one (pts ((ways l)))), (7, .one (.omap g1)), (3, .one (.sh [pl ([-q.num, (q.den : Int)]), sg q.num, mg q.num, sg ((q.den : Int)), mg ((q.den : Int)), sg q.num, mg q.num, sg ((q.den : Int)), mg ((q.den : Int))])), (16, .one (.omap g7)), (95, .one (pts ((ways l)))), (96, .one (.int .i64 (((((ways l)).length : Nat) : Int)))), (17, .one (.int .i64 (((i : Nat) : Int)))), (18, .one (.ow g8 0)), (97, .one (.int .i64 (((i : Nat) : Int)))), (105, .one (pts (((ways l).drop (i + 1))))), (106, .one (.int .i64 ((((((ways l).drop (i + 1))).length : Nat) : Int)))), (19, .one (.int .i64 (((j : Nat) : Int)))), (20, .one (.ow g9 0)), (107, .one (.int .i64 (((j : Nat) : Int)))), (117, .one (pts (((ways l).drop (i + j + 2))))), (118, .one (.int .i64 ((((((ways l).drop (i + j + 2))).length : Nat) : Int)))), (21, .one (.int .i64 (((k : Nat) : Int)))), (22, .one (.ow g10 0)), (119, .one (.int .i64 (((k : Nat) : Int)))), (131, .one (pts (((ways l).drop (i + j + k + 3))))), (132, .one (.int .i64 ((((((ways l).drop (i + j + k + 3))).length : Nat) : Int)))), (6, .one (.orow s4 7 0 P4.length)), (133, .one (.int .i64 (((h : Nat) : Int))))] ∧ B = [.row s4 166 7 (P4.map ofCt), .mpb g7 F4, .mpb g1 M, .blk g8 76 [pl a.c.x, pl a.c.y, sg a.c.d, mg a.c.d, .int .i64 a.id], .blk g9 76 [pl b.c.x, pl b.c.y, sg b.c.d, mg b.c.d, .int .i64 b.id], .blk g10 76 [pl c.c.x, pl c.c.y, sg c.c.d, mg c.c.d, .int .i64 c.id], .blk g 210 [c0, c1, c2, c3, c4, c5, c6, c7, c8, c9, c10, c11, pts l, y1]]) (m := _) ⟨0, s3, qs3, P3, F3, Nat.zero_le _, by simp, fc2, fc3, Nat.le_refl _, rfl, rfl, rfl⟩ ?_
      rintro m L B ⟨h, s4, qs4, P4, F4, fd0, fd1, fd2, fd3, fd4, hm, rfl, rfl⟩
      by_cases h4 : h < ((ways l).drop (i + j + k + 3)).length
      ·obtain ⟨d, hd⟩ : ∃ d, ((ways l).drop (i + j + k + 3))[h]? = some d := ⟨_, List.getElem?_eq_getElem h4⟩
       have hdg := hgw d (List.mem_of_mem_drop (List.mem_of_getElem? hd))
       refine ac_seq (ac_reg ?_)
       refine w_ (p_cmp rfl rfl rfl rfl) ?_
       refine aw_nil ?_
       refine ac_seq ?_
       refine ac_t rfl (decide_eq_true (by omega)) ?_
       refine ac_skip ?_
       refine ac_seq (ac_block (ac_seq (ac_reg ?_)))
       refine w_ (p_index (h) Tryz.runUnderlying22 Tryz.sizeOf76 rfl rfl (rfl) (map_get hd) rfl rfl) ?_
       refine w_ (p_loadSh Tryz.isAgg76 Tryz.sizeOf76 rfl rfl rfl rfl) ?_
       refine a_alloc Tryz.zeroValue76 rfl rfl fun g11 => ?_
       refine a_storeOw 0 Tryz.sizeOf76 rfl rfl rfl rfl rfl rfl rfl ?_
       refine aw_nil ?_
       refine ac_seq (ac_reg ?_)
       refine w_ (p_loadSh Tryz.isAgg59 Tryz.sizeOf59 rfl rfl rfl rfl) ?_
       refine w_ (p_loadOw 4 Tryz.isAgg76 Tryz.sizeOf76 rfl rfl rfl rfl rfl) ?_
       refine w_ (p_loadOw 5 Tryz.isAgg76 Tryz.sizeOf76 rfl rfl rfl rfl rfl) ?_
       refine w_ (p_loadOw 6 Tryz.isAgg76 Tryz.sizeOf76 rfl rfl rfl rfl rfl) ?_
       refine w_ (p_loadOw 0 Tryz.isAgg76 Tryz.sizeOf76 rfl rfl rfl rfl rfl) ?_
       refine w_ (p_lit Tryz.runUnderlying22 Tryz.sizeOf76 Tryz.zeroValue76 rfl rfl rfl rfl rfl rfl rfl rfl rfl rfl) ?_
       refine w_ (p_call Tryz.func201 rfl rfl rfl rfl (d_cert_Circle (hag.1) (hbg.1) (hcg.1) (hdg.1) (hag.2) (hbg.2) (hcg.2) (hdg.2) (hq)) rfl) ?_
       refine w_ (p_move rfl rfl) ?_
       refine w_ (p_extract rfl rfl rfl) ?_
       refine w_ (p_extract rfl rfl rfl) ?_
       refine a_alloc Tryz.zeroValue166 rfl rfl fun g12 => ?_
       refine a_storeOw 0 Tryz.sizeOf166 rfl rfl rfl rfl rfl rfl rfl ?_
       refine w_ (p_assign rfl rfl) ?_
       refine aw_nil ?_
       refine ac_seq (ac_reg ?_)
       refine w_ (p_move rfl rfl) ?_
       refine w_ (p_loadOw 0 Tryz.isAgg166 Tryz.sizeOf166 rfl rfl rfl rfl rfl) ?_
       refine w_ (p_lit Tryz.runUnderlying48 Tryz.sizeOf166 Tryz.zeroValue166 rfl rfl rfl rfl rfl rfl rfl rfl rfl rfl) ?_
       refine a_append (ls2 := ((P4 ++ [mkCircle q a b c d]).map ofCt)) (m2 := (P4 ++ [mkCircle q a b c d]).length) 2 Tryz.runUnderlying48 Tryz.runUnderlying48 Tryz.typeInfo166 rfl rfl Tryz.sizeOf166 Tryz.zeroValue166 rfl rfl rfl rfl rfl rfl rfl (by rw [List.length_map]; exact Nat.le_refl _) (one_w rfl) (one_f rfl) (by show _ + 1 < _; omega) (by rw [List.take_of_length_le (by rw [List.length_map]; exact Nat.le_refl _)]; exact snoc_map ofCt _ _) (by rw [List.length_append]; rfl) fun r13 => ?_
       refine w_ (p_assign rfl rfl) ?_
       refine aw_nil ?_
       refine ac_reg ?_
       refine w_ (p_move rfl rfl) ?_
       refine w_ (p_move rfl rfl) ?_
       refine w_ (p_fieldOw fa_166_2 rfl rfl) ?_
       refine w_ (p_loadOw 1 Tryz.isAgg3 Tryz.sizeOf3 rfl rfl rfl rfl rfl) ?_
       refine w_ (p_fieldOw fa_76_1 rfl rfl) ?_
       refine w_ (p_loadOw 5 Tryz.isAgg3 Tryz.sizeOf3 rfl rfl rfl rfl rfl) ?_
       refine w_ (p_fieldOw fa_76_1 rfl rfl) ?_
       refine w_ (p_loadOw 6 Tryz.isAgg3 Tryz.sizeOf3 rfl rfl rfl rfl rfl) ?_
       refine w_ (p_fieldOw fa_76_1 rfl rfl) ?_
       refine w_ (p_loadOw 7 Tryz.isAgg3 Tryz.sizeOf3 rfl rfl rfl rfl rfl) ?_
       refine w_ (p_fieldOw fa_76_1 rfl rfl) ?_
       refine w_ (p_loadOw 2 Tryz.isAgg3 Tryz.sizeOf3 rfl rfl rfl rfl rfl) ?_
       refine w_ (p_build (bd_42) rfl rfl rfl rfl) ?_
       refine aw_front 4 rfl ?_
       refine aw_front 4 rfl ?_
       refine a_calls (Bin := [.mpb g7 F4, .mpb g1 M]) Tryz.func209 rfl rfl rfl rfl (d_mesh_fill h_M (germAt_bd _ _)) rfl fun r_ B_ hr_ => ?_
       obtain ⟨rfl, rfl⟩ := hr_
       refine aw_nil ?_
       refine ac_reg ?_
       refine w_ (p_add (r := ((h + 1 : Nat) : Int)) rfl rfl (i64_is (by omega) (by omega)) rfl) ?_
       refine w_ (p_move rfl rfl) ?_
       refine aw_pick [0, 5, 7, 3, 16, 95, 96, 17, 18, 97, 105, 106, 19, 20, 107, 117, 118, 21, 22, 119, 131, 132, 6, 133] rfl ?_
       refine aw_drop 3 rfl ?_
       refine aw_drop 3 rfl ?_
       refine aw_front 6 rfl ?_
       refine aw_front 6 rfl ?_
       refine aw_front 6 rfl ?_
       refine aw_front 6 rfl ?_
       refine aw_front 5 rfl ?_
       refine aw_front 5 rfl ?_
       refine aw_front 6 rfl ?_
       refine aw_nil ?_
       refine ⟨_, ?_, h + 1, r13, qs4 ++ [(a, (b, (c, d)))], P4 ++ [mkCircle q a b c d], (fillM M (mkCircle q a b c d).want [a.id, b.id, c.id, d.id] F4), by omega, by rw [take_snoc hd, List.map_append, ← List.append_assoc, ← fd1]; rfl, by rw [List.map_append, ← List.append_assoc, ← fd2]; rfl, fullM_snoc' fd3, by rw [List.length_append]; show P4.length + 1 ≤ _; omega, rfl, rfl, rfl⟩
       omega
      ·have hh2 : ((ways l).drop (i + j + k + 3)).take h = ((ways l).drop (i + j + k + 3)) := List.take_of_length_le (by omega)
       refine ac_seq (ac_reg ?_)
       refine w_ (p_cmp rfl rfl rfl rfl) ?_
       refine aw_nil ?_
       refine ac_seq ?_
       refine ac_f rfl (decide_eq_false (by omega)) ?_
       refine ac_exit ?_
       repeat refine seqQ_exit ?_
       refine blkQ_here ?_
       refine ac_reg ?_
       refine w_ (p_add (r := ((k + 1 : Nat) : Int)) rfl rfl (i64_is (by omega) (by omega)) rfl) ?_
       refine w_ (p_move rfl rfl) ?_
       refine aw_pick [0, 5, 7, 3, 16, 95, 96, 17, 18, 97, 105, 106, 19, 20, 107, 117, 118, 6, 119] rfl ?_
       refine aw_drop 5 rfl ?_
       refine aw_nil ?_
       refine ⟨_, ?_, k + 1, s4, qs4, P4, F4, by omega, by rw [fd1, fc1, pairs_at2 hc, hh2, List.map_append, List.append_assoc, List.map_map]; rfl, fd2, fd3, by omega, rfl, rfl, rfl⟩
       omega
     ·have hk2 : k = ((ways l).drop (i + j + 2)).length := by omega
      refine ac_seq (ac_reg ?_)
      refine w_ (p_cmp rfl rfl rfl rfl) ?_
      refine aw_nil ?_
      refine ac_seq ?_
      refine ac_f rfl (decide_eq_false (by omega)) ?_
      refine ac_exit ?_
      repeat refine seqQ_exit ?_
      refine blkQ_here ?_
      refine ac_reg ?_
      refine w_ (p_add (r := ((j + 1 : Nat) : Int)) rfl rfl (i64_is (by omega) (by omega)) rfl) ?_
      refine w_ (p_move rfl rfl) ?_
      refine aw_pick [0, 5, 7, 3, 16, 95, 96, 17, 18, 97, 105, 106, 6, 107] rfl ?_
      refine aw_drop 4 rfl ?_
      refine aw_nil ?_
      refine ⟨_, ?_, j + 1, s3, qs3, P3, F3, by omega, by rw [fc1, fb1, tri_at hb, hk2, List.map_append, List.append_assoc, List.map_map]; rfl, fc2, fc3, by omega, rfl, rfl, rfl⟩
      omega
    ·have hj2 : j = ((ways l).drop (i + 1)).length := by omega
     refine ac_seq (ac_reg ?_)
     refine w_ (p_cmp rfl rfl rfl rfl) ?_
     refine aw_nil ?_
     refine ac_seq ?_
     refine ac_f rfl (decide_eq_false (by omega)) ?_
     refine ac_exit ?_
     repeat refine seqQ_exit ?_
     refine blkQ_here ?_
     refine ac_reg ?_
     refine w_ (p_add (r := ((i + 1 : Nat) : Int)) rfl rfl (i64_is (by omega) (by omega)) rfl) ?_
     refine w_ (p_move rfl rfl) ?_
     refine aw_pick [0, 5, 7, 3, 16, 95, 96, 6, 97] rfl ?_
     refine aw_drop 3 rfl ?_
     refine aw_nil ?_
     refine ⟨_, ?_, i + 1, s2, qs2, P2, F2, by omega, by rw [fb1, fa1, quaK_next _ _ _ ha, hj2]; rfl, fb2, fb3, by omega, rfl, rfl, rfl⟩
     omega
   ·have hqt : qs1 = quads (ways l) := by rw [fa1, show i = (ways l).length from by omega]; rfl
    have hP : P1 = meshC q l := by rw [fa2, hqt]; rfl
    have hF : F1 = fullM q M (quads (ways l)) := by rw [fa3, hqt]
    have h_F : BoolM F1 := by rw [hF]; exact boolM_full _ _ _
    have hPl : P1.length ≤ 100000 := by omega
    refine ac_seq (ac_reg ?_)
    refine w_ (p_cmp rfl rfl rfl rfl) ?_
    refine aw_nil ?_
    refine ac_seq ?_
    refine ac_f rfl (decide_eq_false (by omega)) ?_
    refine ac_exit ?_
    repeat refine seqQ_exit ?_
    refine blkQ_here ?_
    refine ac_seq (ac_reg ?_)
    refine w_ (p_move rfl rfl) ?_
    refine w_ (p_nilCheck rfl rfl rfl) ?_
    refine w_ (p_fieldOw fa_210_2 rfl rfl) ?_
    refine a_storeOw 3 Tryz.sizeOf63 rfl rfl rfl rfl rfl rfl rfl ?_
    refine aw_ownLeaf 3 13 79 3 rfl rfl rfl ?_
    refine aw_nil ?_
    refine ac_seq (ac_seq (ac_reg ?_))
    refine w_ (p_move rfl rfl) ?_
    refine w_ (p_len (m := ((ways l)).length) Tryz.runUnderlying22 rfl (rlen_pts _) rfl) ?_
    refine w_ (p_move rfl rfl) ?_
    refine aw_nil ?_
    refine ac_block ?_
    refine ac_pick [0, 5, 6, 7, 16, 172, 173, 174] rfl ?_
    refine ac_front 2 rfl ?_
    refine ac_front 4 rfl ?_
    refine ac_front 4 rfl ?_
    refine ac_front 3 rfl ?_
    refine ac_front 4 rfl ?_
    refine ac_loop (fun m L B => ∃ i t1 ts1, i ≤ (ways l).length ∧ ts1 = (triK i (ways l)).filter (isT M F1) ∧ ts1.length ≤ i * 100 ∧ m = (ways l).length - i ∧ L = [(0, .one (.ow g 0)), (5, .one (pts ((ways l)))), (6, .one (.orow s1 7 0 P1.length)), (7, .one (.omap g1)), (16, .one (.omap g7)), (172, .one (pts ((ways l)))), (173, .one (.int .i64 (((((ways l)).length : Nat) : Int)))), (174, .one (.int .i64 (((i : Nat) : Int))))] ∧ B = [.row t1 79 3 (ts1.map trL), .blk g 210 [c0, c1, c2, c3, c4, c5, c6, c7, c8, c9, c10, c11, pts l, .orow t1 3 0 ts1.length], .mpb g7 F1, .mpb g1 M, .row s1 166 7 (P1.map ofCt)]) (m := _) ⟨0, none, [], Nat.zero_le _, rfl, by simp, rfl, rfl, rfl⟩ ?_
    rintro m L B ⟨i, t1, ts1, ga0, ga1, ga2, hm, rfl, rfl⟩
    by_cases h1 : i < (ways l).length
    ·obtain ⟨a, ha⟩ : ∃ a, (ways l)[i]? = some a := ⟨_, List.getElem?_eq_getElem h1⟩
     have hag := hgw a (List.mem_of_getElem? ha)
     have hd1 : ((ways l).drop (i + 1)).length = (ways l).length - (i + 1) := List.length_drop ..
     refine ac_seq (ac_reg ?_)
     refine w_ (p_cmp rfl rfl rfl rfl) ?_
     refine aw_nil ?_
     refine ac_seq ?_
     refine ac_t rfl (decide_eq_true (by omega)) ?_
     refine ac_skip ?_
     refine ac_seq (ac_block (ac_seq (ac_reg ?_)))
     refine w_ (p_move rfl rfl) ?_
     refine w_ (p_index (i) Tryz.runUnderlying22 Tryz.sizeOf76 rfl rfl (rfl) (map_get ha) rfl rfl) ?_
     refine w_ (p_loadSh Tryz.isAgg76 Tryz.sizeOf76 rfl rfl rfl rfl) ?_
     refine a_alloc Tryz.zeroValue76 rfl rfl fun g14 => ?_
     refine w_ (p_assign rfl rfl) ?_
     refine a_storeOw 0 Tryz.sizeOf76 rfl rfl rfl rfl rfl rfl rfl ?_
     refine aw_nil ?_
     refine ac_seq (ac_reg ?_)
     refine w_ (p_move rfl rfl) ?_
     refine w_ (p_move rfl rfl) ?_
     refine w_ (p_add (r := ((i + 1 : Nat) : Int)) rfl rfl (i64_is (by omega) (by omega)) rfl) ?_
     refine w_ (p_sliceLo (i + 1) Tryz.runUnderlying22 Tryz.sizeOf76 rfl rfl rfl (by rw [List.length_map]; omega) (map_w (ways l) (fun _ => rfl)) (l' := ((ways l).drop (i + 1)).map ofPt) (by rw [List.map_drop]) rfl) ?_
     refine w_ (p_len (m := (((ways l).drop (i + 1))).length) Tryz.runUnderlying22 rfl (rlen_pts _) rfl) ?_
     refine w_ (p_move rfl rfl) ?_
     refine aw_nil ?_
     refine ac_block ?_
     refine ac_pick [0, 5, 6, 7, 16, 172, 173, 27, 28, 174, 182, 183, 184] rfl ?_
     refine ac_front 5 rfl ?_
     refine ac_front 5 rfl ?_
     refine ac_front 5 rfl ?_
     refine ac_front 3 rfl ?_
     refine ac_front 5 rfl ?_
     refine ac_front 5 rfl ?_
     refine ac_loop (fun m L B => ∃ j t2 ts2, j ≤ ((ways l).drop (i + 1)).length ∧ ts2 = ts1 ++ ((pairsK j ((ways l).drop (i + 1))).map (fun m => (a, m))).filter (isT M F1) ∧ ts2.length ≤ ts1.length + j * 10 ∧ m = ((ways l).drop (i + 1)).length - j ∧ L = [(0, .one (.ow g 0)), (5, .one (pts ((ways l)))), (6, .one (.orow s1 7 0 P1.length)), (7, .one (.omap g1)), (16, .one (.omap g7)), (172, .one (pts ((ways l)))), (173, .one (.int .i64 (((((ways l)).length : Nat) : Int)))), (27, .one (.int .i64 (((i : Nat) : Int)))), (28, .one (.ow g14 0)), (174, .one (.int .i64 (((i : Nat) : Int)))), (182, .one (pts (((ways l).drop (i + 1))))), (183, .one (.int .i64 ((((((ways l).drop (i + 1))).length : Nat) : Int)))), (184, .one (.int .i64 (((j : Nat) : Int))))] ∧ B = [.row t2 79 3 (ts2.map trL), .blk g 210 [c0, c1, c2, c3, c4, c5, c6, c7, c8, c9, c10, c11, pts l, .orow t2 3 0 ts2.length], .blk g14 76 [pl a.c.x, pl a.c.y, sg a.c.d, mg a.c.d, .int .i64 a.id], .mpb g7 F1, .mpb g1 M, .row s1 166 7 (P1.map ofCt)]) (m := _) ⟨0, t1, ts1, Nat.zero_le _, by simp [pairsK], Nat.le_refl _, rfl, rfl, rfl⟩ ?_
     rintro m L B ⟨j, t2, ts2, gb0, gb1, gb2, hm, rfl, rfl⟩
     by_cases h2 : j < ((ways l).drop (i + 1)).length
     ·obtain ⟨b, hb⟩ : ∃ b, ((ways l).drop (i + 1))[j]? = some b := ⟨_, List.getElem?_eq_getElem h2⟩
      have hbg := hgw b (List.mem_of_mem_drop (List.mem_of_getElem? hb))
      have hd2 : ((ways l).drop (i + j + 2)).length = (ways l).length - (i + j + 2) := List.length_drop ..
      refine ac_seq (ac_reg ?_)
      refine w_ (p_cmp rfl rfl rfl rfl) ?_
      refine aw_nil ?_
      refine ac_seq ?_
      refine ac_t rfl (decide_eq_true (by omega)) ?_
      refine ac_skip ?_
      refine ac_seq (ac_block (ac_seq (ac_reg ?_)))
      refine w_ (p_move rfl rfl) ?_
      refine w_ (p_index (j) Tryz.runUnderlying22 Tryz.sizeOf76 rfl rfl (rfl) (map_get hb) rfl rfl) ?_
      refine w_ (p_loadSh Tryz.isAgg76 Tryz.sizeOf76 rfl rfl rfl rfl) ?_
      refine a_alloc Tryz.zeroValue76 rfl rfl fun g15 => ?_
      refine w_ (p_assign rfl rfl) ?_
      refine a_storeOw 0 Tryz.sizeOf76 rfl rfl rfl rfl rfl rfl rfl ?_
      refine aw_nil ?_
      refine ac_seq (ac_reg ?_)
      refine w_ (p_move rfl rfl) ?_
      refine w_ (p_move rfl rfl) ?_
      refine w_ (p_move rfl rfl) ?_
      refine w_ (p_add (r := ((i + j : Nat) : Int)) rfl rfl (i64_is (by omega) (by omega)) rfl) ?_
      refine w_ (p_add (r := (((i + j) + 2 : Nat) : Int)) rfl rfl (i64_is (by omega) (by omega)) rfl) ?_
      refine w_ (p_sliceLo (i + j + 2) Tryz.runUnderlying22 Tryz.sizeOf76 rfl rfl rfl (by rw [List.length_map]; omega) (map_w (ways l) (fun _ => rfl)) (l' := ((ways l).drop (i + j + 2)).map ofPt) (by rw [List.map_drop]) rfl) ?_
      refine w_ (p_len (m := (((ways l).drop (i + j + 2))).length) Tryz.runUnderlying22 rfl (rlen_pts _) rfl) ?_
      refine w_ (p_move rfl rfl) ?_
      refine aw_nil ?_
      refine ac_block ?_
      refine ac_pick [0, 5, 6, 7, 16, 172, 173, 27, 28, 174, 182, 183, 29, 30, 184, 194, 195, 196] rfl ?_
      refine ac_front 6 rfl ?_
      refine ac_front 6 rfl ?_
      refine ac_front 6 rfl ?_
      refine ac_front 3 rfl ?_
      refine ac_front 6 rfl ?_
      refine ac_front 6 rfl ?_
      refine ac_front 6 rfl ?_
      refine ac_loop (fun m L B => ∃ k t3 ts3, k ≤ ((ways l).drop (i + j + 2)).length ∧ ts3 = ts2 ++ ((((ways l).drop (i + j + 2)).take k).map (fun y => (a, (b, y)))).filter (isT M F1) ∧ ts3.length ≤ ts2.length + k ∧ m = ((ways l).drop (i + j + 2)).length - k ∧ L = [(0, .one (.ow g 0)), (5, .one (pts ((ways l)))), (6, .one (.orow s1 7 0 P1.length)), (7, .one (.omap g1)), (16, .one (.omap g7)), (172, .one (pts ((ways l)))), (173, .one (.int .i64 (((((ways l)).length : Nat) : Int)))), (27, .one (.int .i64 (((i : Nat) : Int)))), (28, .one (.ow g14 0)), (174, .one (.int .i64 (((i : Nat) : Int)))), (182, .one (pts (((ways l).drop (i + 1))))), (183, .one (.int .i64 ((((((ways l).drop (i + 1))).length : Nat) : Int)))), (29, .one (.int .i64 (((j : Nat) : Int)))), (30, .one (.ow g15 0)), (184, .one (.int .i64 (((j : Nat) : Int)))), (194, .one (pts (((ways l).drop (i + j + 2))))), (195, .one (.int .i64 ((((((ways l).drop (i + j + 2))).length : Nat) : Int)))), (196, .one (.int .i64 (((k : Nat) : Int))))] ∧ B = [.row t3 79 3 (ts3.map trL), .blk g 210 [c0, c1, c2, c3, c4, c5, c6, c7, c8, c9, c10, c11, pts l, .orow t3 3 0 ts3.length], .blk g14 76 [pl a.c.x, pl a.c.y, sg a.c.d, mg a.c.d, .int .i64 a.id], .blk g15 76 [pl b.c.x, pl b.c.y, sg b.c.d, mg b.c.d, .int .i64 b.id], .mpb g7 F1, .mpb g1 M, .row s1 166 7 (P1.map ofCt)]) (m := _) ⟨0, t2, ts2, Nat.zero_le _, by simp, Nat.le_refl _, rfl, rfl, rfl⟩ ?_
      rintro m L B ⟨k, t3, ts3, gc0, gc1, gc2, hm, rfl, rfl⟩
      by_cases h3 : k < ((ways l).drop (i + j + 2)).length
      ·obtain ⟨c, hc⟩ : ∃ c, ((ways l).drop (i + j + 2))[k]? = some c := ⟨_, List.getElem?_eq_getElem h3⟩
       have hcg := hgw c (List.mem_of_mem_drop (List.mem_of_getElem? hc))
       by_cases h8 : intM M [a.id, b.id, c.id] = 0
       ·have hT : isT M F1 (a, (b, c)) = false := by simp [isT, key3, h8]
        refine ac_seq (ac_reg ?_)
        refine w_ (p_cmp rfl rfl rfl rfl) ?_
        refine aw_nil ?_
        refine ac_seq ?_
        refine ac_t rfl (decide_eq_true (by omega)) ?_
        refine ac_skip ?_
        refine ac_seq (ac_block (ac_seq (ac_reg ?_)))
        refine w_ (p_index (k) Tryz.runUnderlying22 Tryz.sizeOf76 rfl rfl (rfl) (map_get hc) rfl rfl) ?_
        refine w_ (p_loadSh Tryz.isAgg76 Tryz.sizeOf76 rfl rfl rfl rfl) ?_
        refine a_alloc Tryz.zeroValue76 rfl rfl fun g16 => ?_
        refine a_storeOw 0 Tryz.sizeOf76 rfl rfl rfl rfl rfl rfl rfl ?_
        refine aw_nil ?_
        refine ac_seq (ac_reg ?_)
        refine w_ (p_fieldOw fa_76_1 rfl rfl) ?_
        refine w_ (p_loadOw 3 Tryz.isAgg3 Tryz.sizeOf3 rfl rfl rfl rfl rfl) ?_
        refine w_ (p_fieldOw fa_76_1 rfl rfl) ?_
        refine w_ (p_loadOw 4 Tryz.isAgg3 Tryz.sizeOf3 rfl rfl rfl rfl rfl) ?_
        refine w_ (p_fieldOw fa_76_1 rfl rfl) ?_
        refine w_ (p_loadOw 0 Tryz.isAgg3 Tryz.sizeOf3 rfl rfl rfl rfl rfl) ?_
        refine w_ (p_build (bd_79) rfl rfl rfl rfl) ?_
        refine a_alloc Tryz.zeroValue79 rfl rfl fun g17 => ?_
        refine a_storeOw 0 Tryz.sizeOf79 rfl rfl rfl rfl rfl rfl rfl ?_
        refine aw_nil ?_
        refine ac_seq (ac_reg ?_)
        refine w_ (p_move rfl rfl) ?_
        refine w_ (p_loadOw 0 Tryz.isAgg79 Tryz.sizeOf79 rfl rfl rfl rfl rfl) ?_
        refine w_ (p_lookup (ks := [a.id, b.id, c.id]) (r := .int .i64 ((intM M [a.id, b.id, c.id]))) 7 mapT_270 rfl rfl rfl rfl ((h_M [a.id, b.id, c.id]).1) rfl rfl) ?_
        refine w_ (p_cmp rfl rfl rfl rfl) ?_
        refine w_ (p_move rfl rfl) ?_
        refine w_ (p_gskipU rfl rfl (decide_eq_false (fun h => h h8)) rfl) ?_
        refine w_ (p_gskipU rfl rfl (decide_eq_false (fun h => h h8)) rfl) ?_
        refine w_ (p_gskipU rfl rfl (decide_eq_false (fun h => h h8)) rfl) ?_
        refine w_ (p_gskipU rfl rfl (decide_eq_false (fun h => h h8)) rfl) ?_
        refine w_ (p_pickF rfl (decide_eq_false (fun h => h h8)) rfl rfl) ?_
        refine aw_nil ?_
        refine ac_f rfl (rfl) ?_
        refine ac_skip ?_
        refine ac_reg ?_
        refine w_ (p_add (r := ((k + 1 : Nat) : Int)) rfl rfl (i64_is (by omega) (by omega)) rfl) ?_
        refine w_ (p_move rfl rfl) ?_
        refine aw_pick [0, 5, 6, 7, 16, 172, 173, 27, 28, 174, 182, 183, 29, 30, 184, 194, 195, 196] rfl ?_
        refine aw_drop 0 rfl ?_
        refine aw_drop 0 rfl ?_
        refine aw_nil ?_
        refine ⟨_, ?_, k + 1, t3, ts3, by omega, by rw [take_snoc hc, fm_f (f := fun y => (a, (b, y))) hT]; exact gc1, by omega, rfl, rfl, rfl⟩
        omega
       ·cases h9 : boolM F1 [a.id, b.id, c.id]
        ·have hT : isT M F1 (a, (b, c)) = true := by simp [isT, key3, h8, h9]
         refine ac_seq (ac_reg ?_)
         refine w_ (p_cmp rfl rfl rfl rfl) ?_
         refine aw_nil ?_
         refine ac_seq ?_
         refine ac_t rfl (decide_eq_true (by omega)) ?_
         refine ac_skip ?_
         refine ac_seq (ac_block (ac_seq (ac_reg ?_)))
         refine w_ (p_index (k) Tryz.runUnderlying22 Tryz.sizeOf76 rfl rfl (rfl) (map_get hc) rfl rfl) ?_
         refine w_ (p_loadSh Tryz.isAgg76 Tryz.sizeOf76 rfl rfl rfl rfl) ?_
         refine a_alloc Tryz.zeroValue76 rfl rfl fun g18 => ?_
         refine a_storeOw 0 Tryz.sizeOf76 rfl rfl rfl rfl rfl rfl rfl ?_
         refine aw_nil ?_
         refine ac_seq (ac_reg ?_)
         refine w_ (p_fieldOw fa_76_1 rfl rfl) ?_
         refine w_ (p_loadOw 3 Tryz.isAgg3 Tryz.sizeOf3 rfl rfl rfl rfl rfl) ?_
         refine w_ (p_fieldOw fa_76_1 rfl rfl) ?_
         refine w_ (p_loadOw 4 Tryz.isAgg3 Tryz.sizeOf3 rfl rfl rfl rfl rfl) ?_
         refine w_ (p_fieldOw fa_76_1 rfl rfl) ?_
         refine w_ (p_loadOw 0 Tryz.isAgg3 Tryz.sizeOf3 rfl rfl rfl rfl rfl) ?_
         refine w_ (p_build (bd_79) rfl rfl rfl rfl) ?_
         refine a_alloc Tryz.zeroValue79 rfl rfl fun g19 => ?_
         refine a_storeOw 0 Tryz.sizeOf79 rfl rfl rfl rfl rfl rfl rfl ?_
         refine aw_nil ?_
         refine ac_seq (ac_reg ?_)
         refine w_ (p_move rfl rfl) ?_
         refine w_ (p_loadOw 0 Tryz.isAgg79 Tryz.sizeOf79 rfl rfl rfl rfl rfl) ?_
         refine w_ (p_lookup (ks := [a.id, b.id, c.id]) (r := .int .i64 ((intM M [a.id, b.id, c.id]))) 7 mapT_270 rfl rfl rfl rfl ((h_M [a.id, b.id, c.id]).1) rfl rfl) ?_
         refine w_ (p_cmp rfl rfl rfl rfl) ?_
         refine w_ (p_move rfl rfl) ?_
         refine w_ ((p_grun rfl rfl (decide_eq_true h8) (p_move rfl rfl))) ?_
         refine w_ ((p_grun rfl rfl (decide_eq_true h8) (p_loadOw 0 Tryz.isAgg79 Tryz.sizeOf79 rfl rfl rfl rfl rfl))) ?_
         refine w_ ((p_grun rfl rfl (decide_eq_true h8) (p_lookup (ks := [a.id, b.id, c.id]) (r := .bool ((boolM F1 [a.id, b.id, c.id]))) 6 mapT_271 rfl rfl rfl rfl (h_F [a.id, b.id, c.id]) rfl rfl))) ?_
         refine w_ ((p_grun rfl rfl (decide_eq_true h8) (p_not rfl rfl))) ?_
         refine w_ (p_pickT rfl (decide_eq_true h8) rfl rfl) ?_
         refine aw_nil ?_
         refine ac_t rfl (by rw [h9]; rfl) ?_
         refine ac_drawM mixed_ 8 [217, 218, 219, 220, 221, 222, 223, 224] [[], [], [1], [2], [3], [], [5], [4, 6]] [.one (.ow g 0), .one (.ow g 0), .one (.ow g 0), .one (.ow g 13), .one (.orow t3 3 0 ts3.length), .agg [.int .i64 a.id, .int .i64 b.id, .int .i64 c.id], .one (.row [[.int .i64 a.id, .int .i64 b.id, .int .i64 c.id]]), .un] 7 (fun u B => ∃ t4, u = .one (.orow t4 3 0 ((ts3 ++ [(a, (b, c))]).length)) ∧ B = [.row t4 79 3 ((ts3 ++ [(a, (b, c))]).map trL), .blk g19 79 [.int .i64 a.id, .int .i64 b.id, .int .i64 c.id], .blk g18 76 [pl c.c.x, pl c.c.y, sg c.c.d, mg c.c.d, .int .i64 c.id], .blk g 210 [c0, c1, c2, c3, c4, c5, c6, c7, c8, c9, c10, c11, pts l, .orow t3 3 0 ts3.length], .blk g14 76 [pl a.c.x, pl a.c.y, sg a.c.d, mg a.c.d, .int .i64 a.id], .blk g15 76 [pl b.c.x, pl b.c.y, sg b.c.d, mg b.c.d, .int .i64 b.id], .mpb g7 F1, .mpb g1 M, .row s1 166 7 (P1.map ofCt)]) rfl rfl rfl rfl ⟨p_move rfl rfl, p_move rfl rfl, p_nilCheck rfl rfl rfl, p_fieldOw fa_210_2 rfl rfl, p_loadOw 3 Tryz.isAgg63 Tryz.sizeOf63 rfl rfl rfl rfl rfl, p_loadOw 0 Tryz.isAgg79 Tryz.sizeOf79 rfl rfl rfl rfl rfl, p_lit Tryz.runUnderlying63 Tryz.sizeOf79 Tryz.zeroValue79 rfl rfl rfl rfl rfl rfl rfl rfl rfl rfl, ?_, trivial⟩ ?_ ?_
         ·refine am_of_aw fun N k_ => ?_
          refine a_append (ls2 := ((ts3 ++ [(a, (b, c))]).map trL)) (m2 := (ts3 ++ [(a, (b, c))]).length) 2 Tryz.runUnderlying63 Tryz.runUnderlying63 Tryz.typeInfo79 rfl rfl Tryz.sizeOf79 Tryz.zeroValue79 rfl rfl rfl rfl rfl rfl rfl (by rw [List.length_map]; exact Nat.le_refl _) (one_w rfl) (one_f rfl) (by show _ + 1 < _; omega) (by rw [List.take_of_length_le (by rw [List.length_map]; exact Nat.le_refl _)]; exact snoc_map trL ts3 (a, (b, c))) (by rw [List.length_append]; rfl) fun r20 => ?_
          exact aw_nil (k_ _ _ ⟨_, rfl, rfl⟩)
         ·rintro u_ B_ ⟨t4, rfl, rfl⟩
          exact ⟨p_move rfl rfl, p_move rfl rfl, p_nilCheck rfl rfl rfl, p_fieldOw fa_210_2 rfl rfl, p_loadOw 3 Tryz.isAgg63 Tryz.sizeOf63 rfl rfl rfl rfl rfl, p_loadOw 1 Tryz.isAgg79 Tryz.sizeOf79 rfl rfl rfl rfl rfl, p_lit Tryz.runUnderlying63 Tryz.sizeOf79 Tryz.zeroValue79 rfl rfl rfl rfl rfl rfl rfl rfl rfl rfl, trivial, trivial⟩
         ·rintro u_ B_ ⟨t4, rfl, rfl⟩
          refine ⟨_, rfl, ?_⟩
          refine w_ (p_nilCheck rfl rfl rfl) ?_
          refine w_ (p_fieldOw fa_210_2 rfl rfl) ?_
          refine a_storeOw 3 Tryz.sizeOf63 rfl rfl rfl rfl rfl rfl rfl ?_
          refine aw_nil ?_
          refine ac_reg ?_
          refine w_ (p_add (r := ((k + 1 : Nat) : Int)) rfl rfl (i64_is (by omega) (by omega)) rfl) ?_
          refine w_ (p_move rfl rfl) ?_
          refine aw_pick [0, 5, 6, 7, 16, 172, 173, 27, 28, 174, 182, 183, 29, 30, 184, 194, 195, 196] rfl ?_
          refine aw_drop 1 rfl ?_
          refine aw_drop 1 rfl ?_
          refine aw_nil ?_
          refine ⟨_, ?_, k + 1, t4, ts3 ++ [(a, (b, c))], by omega, by rw [take_snoc hc, fm_t (f := fun y => (a, (b, y))) hT, ← gc1], by rw [List.length_append]; show ts3.length + 1 ≤ _; omega, rfl, rfl, rfl⟩
          omega
        ·have hT : isT M F1 (a, (b, c)) = false := by simp [isT, key3, h8, h9]
         refine ac_seq (ac_reg ?_)
         refine w_ (p_cmp rfl rfl rfl rfl) ?_
         refine aw_nil ?_
         refine ac_seq ?_
         refine ac_t rfl (decide_eq_true (by omega)) ?_
         refine ac_skip ?_
         refine ac_seq (ac_block (ac_seq (ac_reg ?_)))
         refine w_ (p_index (k) Tryz.runUnderlying22 Tryz.sizeOf76 rfl rfl (rfl) (map_get hc) rfl rfl) ?_
         refine w_ (p_loadSh Tryz.isAgg76 Tryz.sizeOf76 rfl rfl rfl rfl) ?_
         refine a_alloc Tryz.zeroValue76 rfl rfl fun g21 => ?_
         refine a_storeOw 0 Tryz.sizeOf76 rfl rfl rfl rfl rfl rfl rfl ?_
         refine aw_nil ?_
         refine ac_seq (ac_reg ?_)
         refine w_ (p_fieldOw fa_76_1 rfl rfl) ?_
         refine w_ (p_loadOw 3 Tryz.isAgg3 Tryz.sizeOf3 rfl rfl rfl rfl rfl) ?_
         refine w_ (p_fieldOw fa_76_1 rfl rfl) ?_
         refine w_ (p_loadOw 4 Tryz.isAgg3 Tryz.sizeOf3 rfl rfl rfl rfl rfl) ?_
         refine w_ (p_fieldOw fa_76_1 rfl rfl) ?_
         refine w_ (p_loadOw 0 Tryz.isAgg3 Tryz.sizeOf3 rfl rfl rfl rfl rfl) ?_
         refine w_ (p_build (bd_79) rfl rfl rfl rfl) ?_
         refine a_alloc Tryz.zeroValue79 rfl rfl fun g22 => ?_
         refine a_storeOw 0 Tryz.sizeOf79 rfl rfl rfl rfl rfl rfl rfl ?_
         refine aw_nil ?_
         refine ac_seq (ac_reg ?_)
         refine w_ (p_move rfl rfl) ?_
         refine w_ (p_loadOw 0 Tryz.isAgg79 Tryz.sizeOf79 rfl rfl rfl rfl rfl) ?_
         refine w_ (p_lookup (ks := [a.id, b.id, c.id]) (r := .int .i64 ((intM M [a.id, b.id, c.id]))) 7 mapT_270 rfl rfl rfl rfl ((h_M [a.id, b.id, c.id]).1) rfl rfl) ?_
         refine w_ (p_cmp rfl rfl rfl rfl) ?_
         refine w_ (p_move rfl rfl) ?_
         refine w_ ((p_grun rfl rfl (decide_eq_true h8) (p_move rfl rfl))) ?_
         refine w_ ((p_grun rfl rfl (decide_eq_true h8) (p_loadOw 0 Tryz.isAgg79 Tryz.sizeOf79 rfl rfl rfl rfl rfl))) ?_
         refine w_ ((p_grun rfl rfl (decide_eq_true h8) (p_lookup (ks := [a.id, b.id, c.id]) (r := .bool ((boolM F1 [a.id, b.id, c.id]))) 6 mapT_271 rfl rfl rfl rfl (h_F [a.id, b.id, c.id]) rfl rfl))) ?_
         refine w_ ((p_grun rfl rfl (decide_eq_true h8) (p_not rfl rfl))) ?_
         refine w_ (p_pickT rfl (decide_eq_true h8) rfl rfl) ?_
         refine aw_nil ?_
         refine ac_f rfl (by rw [h9]; rfl) ?_
         refine ac_skip ?_
         refine ac_reg ?_
         refine w_ (p_add (r := ((k + 1 : Nat) : Int)) rfl rfl (i64_is (by omega) (by omega)) rfl) ?_
         refine w_ (p_move rfl rfl) ?_
         refine aw_pick [0, 5, 6, 7, 16, 172, 173, 27, 28, 174, 182, 183, 29, 30, 184, 194, 195, 196] rfl ?_
         refine aw_drop 0 rfl ?_
         refine aw_drop 0 rfl ?_
         refine aw_nil ?_
         refine ⟨_, ?_, k + 1, t3, ts3, by omega, by rw [take_snoc hc, fm_f (f := fun y => (a, (b, y))) hT]; exact gc1, by omega, rfl, rfl, rfl⟩
         omega
      ·have hk2 : ((ways l).drop (i + j + 2)).take k = ((ways l).drop (i + j + 2)) := List.take_of_length_le (by omega)
       refine ac_seq (ac_reg ?_)
       refine w_ (p_cmp rfl rfl rfl rfl) ?_
       refine aw_nil ?_
       refine ac_seq ?_
       refine ac_f rfl (decide_eq_false (by omega)) ?_
       refine ac_exit ?_
       repeat refine seqQ_exit ?_
       refine blkQ_here ?_
       refine ac_reg ?_
       refine w_ (p_add (r := ((j + 1 : Nat) : Int)) rfl rfl (i64_is (by omega) (by omega)) rfl) ?_
       refine w_ (p_move rfl rfl) ?_
       refine aw_pick [0, 5, 6, 7, 16, 172, 173, 27, 28, 174, 182, 183, 184] rfl ?_
       refine aw_drop 3 rfl ?_
       refine aw_nil ?_
       refine ⟨_, ?_, j + 1, t3, ts3, by omega, by rw [gc1, gb1, pairs_at hb, hk2, List.map_append, List.filter_append, List.append_assoc, List.map_map]; rfl, by omega, rfl, rfl, rfl⟩
       omega
     ·have hj2 : j = ((ways l).drop (i + 1)).length := by omega
      refine ac_seq (ac_reg ?_)
      refine w_ (p_cmp rfl rfl rfl rfl) ?_
      refine aw_nil ?_
      refine ac_seq ?_
      refine ac_f rfl (decide_eq_false (by omega)) ?_
      refine ac_exit ?_
      repeat refine seqQ_exit ?_
      refine blkQ_here ?_
      refine ac_reg ?_
      refine w_ (p_add (r := ((i + 1 : Nat) : Int)) rfl rfl (i64_is (by omega) (by omega)) rfl) ?_
      refine w_ (p_move rfl rfl) ?_
      refine aw_pick [0, 5, 6, 7, 16, 172, 173, 174] rfl ?_
      refine aw_drop 2 rfl ?_
      refine aw_nil ?_
      refine ⟨_, ?_, i + 1, t2, ts2, by omega, by rw [gb1, ga1, triK_next _ _ _ ha, hj2, List.filter_append]; rfl, by omega, rfl, rfl, rfl⟩
      omega
    ·have hts : ts1 = meshT q l := by rw [ga1, show i = (ways l).length from by omega, hF, hM]; rfl
     have htl := meshT_len q l hn
     refine ac_pubLeaf 0 0 13 rfl rfl rfl rfl (by rw [List.length_map]) (by rw [List.length_map, hts]; omega) ?_
     refine ac_seq (ac_reg ?_)
     refine w_ (p_cmp rfl rfl rfl rfl) ?_
     refine aw_nil ?_
     refine ac_seq ?_
     refine ac_f rfl (decide_eq_false (by omega)) ?_
     refine ac_exit ?_
     repeat refine seqQ_exit ?_
     refine blkQ_here ?_
     refine ac_seq (ac_reg ?_)
     refine w_ (p_move rfl rfl) ?_
     refine w_ (p_assign rfl rfl) ?_
     refine aw_nil ?_
     refine ac_pub (L2 := _) 3 [4] rfl (allAre1 rfl) (by rw [List.length_map]) (by rw [List.length_map]; omega) rfl ?_
     refine ac_slotEq 4 (y := .one (cts (meshC q l))) rfl (by rw [hP]; rfl) ?_
     refine ac_ret ?_
     exact ⟨_, [1, 1], _, rvs_1 Tryz.results131 (rv_tmp rfl rfl), rfl, ⟨rfl, by rw [hts]; rfl⟩⟩
set_option maxRecDepth 20000 in
theorem d_delaunay_New {b1 b2 : Bool} {l1 l2 : List Nat} {n d : Int} {zs : List (List LV)} {qs : List Pt} (h1 : IsInt (.bool b1) (u32r l1) n) (h2 : IsInt (.bool b2) (u32r l2) d) (hn : isz n ≤ 4294967295) (hd : isz d ≤ 4294967295) (hq : Qb (ratOf n d)) (hz : IsPts 4294967294 1073741824 zs qs) (hg : GoodP qs) (hl : qs.length ≤ 6) (he : (newL [] qs).2 = 0) : DoesB Tryz.prog 66 [.agg [.bool b1, u32r l1, .bool b2, u32r l2], .one (.row zs)] [] fun R B => ∃ g, R = .tup [.one (.ow g 0), .one (.int .i64 0)] ∧ B = [.blk g 210 [.bool true, pl ([-((ratOf n d)).num, (((ratOf n d)).den : Int)]), sg ((((ratOf n d))).num), mg ((((ratOf n d))).num), sg (((((ratOf n d))).den : Int)), mg (((((ratOf n d))).den : Int)), sg ((((ratOf n d))).num), mg ((((ratOf n d))).num), sg (((((ratOf n d))).den : Int)), mg (((((ratOf n d))).den : Int)), wts ((sortC (meshC ((ratOf n d)) ((newL [] qs).1)))), .int .i64 0, pts ((newL [] qs).1), tris ((meshT ((ratOf n d)) ((newL [] qs).1)))]] := by
 refine does_ (n := 32) Tryz.func66 rfl Tryz.ntmps66 rfl ?_
 have hgl : GoodP (newL [] qs).1 := fun a ha => hg a ((newL_mem qs [] ha).resolve_right (by simp))
 have hln := newL_len qs
 have hcl := meshC_le ((ratOf n d)) ((newL [] qs).1) (by omega)
 ·skip
  refine ac_seq (ac_reg ?_)
  refine w_ (p_boxS rfl rfl rfl rfl) ?_
  refine w_ (p_assign rfl rfl) ?_
  refine w_ (p_assign rfl rfl) ?_
  refine aw_nil ?_
  refine ac_seq (ac_reg ?_)
  refine w_ (p_move rfl rfl) ?_
  refine w_ (p_call Tryz.func114 rfl rfl rfl rfl (d_crowd_New hz hl) rfl) ?_
  refine w_ (p_move rfl rfl) ?_
  refine w_ (p_extract rfl rfl rfl) ?_
  refine w_ (p_extract rfl rfl rfl) ?_
  refine a_alloc Tryz.zeroValue106 rfl rfl fun g1 => ?_
  refine a_storeOw 0 Tryz.sizeOf106 rfl rfl rfl rfl rfl rfl rfl ?_
  refine w_ (p_assign rfl rfl) ?_
  refine aw_nil ?_
  refine ac_seq (ac_seq (ac_reg ?_))
  refine w_ (p_move rfl rfl) ?_
  refine w_ (p_cmp rfl rfl rfl rfl) ?_
  refine aw_nil ?_
  refine ac_f rfl (decide_eq_false (fun h => h he)) ?_
  refine ac_skip ?_
  refine ac_seq (ac_reg ?_)
  refine w_ (p_loadOw 0 Tryz.isAgg106 Tryz.sizeOf106 rfl rfl rfl rfl rfl) ?_
  refine w_ (p_build (bd_210) rfl rfl rfl rfl) ?_
  refine a_box rfl rfl rfl fun g2 => ?_
  refine w_ (p_assign rfl rfl) ?_
  refine aw_nil ?_
  refine ac_seq (ac_reg ?_)
  refine w_ (p_loadSh Tryz.isAgg57 Tryz.sizeOf57 rfl rfl rfl rfl) ?_
  refine w_ (p_call Tryz.func115 rfl rfl rfl rfl (d_alg_Of h1 h2 hn hd (hq.mono (by omega))) rfl) ?_
  refine a_alloc Tryz.zeroValue59 rfl rfl fun g3 => ?_
  refine a_storeOw 0 Tryz.sizeOf59 rfl rfl rfl rfl rfl rfl rfl ?_
  refine aw_nil ?_
  refine ac_seq ?_
  refine ac_drawM mixed_ 7 [23, 24, 25, 26, 27, 28, 29] [[], [0], [1], [], [], [], [4, 5]] [.one (.ow g2 0), .one (.ow g2 0), .one (.ow g2 0), .agg [pl ([-((ratOf n d)).num, (((ratOf n d)).den : Int)]), sg ((((ratOf n d))).num), mg ((((ratOf n d))).num), sg (((((ratOf n d))).den : Int)), mg (((((ratOf n d))).den : Int)), sg ((((ratOf n d))).num), mg ((((ratOf n d))).num), sg (((((ratOf n d))).den : Int)), mg (((((ratOf n d))).den : Int))], .one (.ow g2 0), .agg [pl ([-((ratOf n d)).num, (((ratOf n d)).den : Int)]), sg ((((ratOf n d))).num), mg ((((ratOf n d))).num), sg (((((ratOf n d))).den : Int)), mg (((((ratOf n d))).den : Int)), sg ((((ratOf n d))).num), mg ((((ratOf n d))).num), sg (((((ratOf n d))).den : Int)), mg (((((ratOf n d))).den : Int))], .un] 6 (fun u B => u = .one (cts ((meshC ((ratOf n d)) ((newL [] qs).1)))) ∧ B = [.blk g2 210 [.bool false, .nils, .bool false, .nils, .bool false, .nils, .bool false, .nils, .bool false, .nils, .nils, .int .i64 0, pts ((newL [] qs).1), tris ((meshT ((ratOf n d)) ((newL [] qs).1)))], .blk g3 59 [pl ([-((ratOf n d)).num, (((ratOf n d)).den : Int)]), sg ((((ratOf n d))).num), mg ((((ratOf n d))).num), sg (((((ratOf n d))).den : Int)), mg (((((ratOf n d))).den : Int)), sg ((((ratOf n d))).num), mg ((((ratOf n d))).num), sg (((((ratOf n d))).den : Int)), mg (((((ratOf n d))).den : Int))], .blk g1 106 [pts ((newL [] qs).1)]]) rfl rfl rfl rfl ⟨p_move rfl rfl, p_nilCheck rfl rfl rfl, p_fieldOw fa_210_0 rfl rfl, p_loadOw 0 Tryz.isAgg59 Tryz.sizeOf59 rfl rfl rfl rfl rfl, p_move rfl rfl, p_loadOw 0 Tryz.isAgg59 Tryz.sizeOf59 rfl rfl rfl rfl rfl, ?_, trivial⟩ ?_ ?_
  ·refine am_of_aw fun N k_ => ?_
   refine aw_front 1 rfl ?_
   refine a_calls (Bin := [.blk g2 210 [.bool false, .nils, .bool false, .nils, .bool false, .nils, .bool false, .nils, .bool false, .nils, .nils, .int .i64 0, pts ((newL [] qs).1), .nils]]) Tryz.func131 rfl rfl rfl rfl (d_delaunay_build hq hgl (by omega)) rfl fun r_ B_ hr_ => ?_
   obtain ⟨rfl, rfl⟩ := hr_
   exact aw_nil (k_ _ _ ⟨rfl, rfl⟩)
  ·rintro u_ B_ ⟨rfl, rfl⟩
   exact ⟨p_move rfl rfl, p_nilCheck rfl rfl rfl, p_fieldOw fa_210_0 rfl rfl, p_loadOw 1 Tryz.isAgg59 Tryz.sizeOf59 rfl rfl rfl rfl rfl, p_move rfl rfl, p_loadOw 1 Tryz.isAgg59 Tryz.sizeOf59 rfl rfl rfl rfl rfl, trivial, trivial⟩
  ·rintro u_ B_ ⟨rfl, rfl⟩
   refine ⟨_, rfl, ?_⟩
   refine aw_blk (ys := [.bool false, .row ([]), .bool false, .row ([]), .bool false, .row ([]), .bool false, .row ([]), .bool false, .row ([]), wts ([]), .int .i64 0, pts ((newL [] qs).1), tris ((meshT ((ratOf n d)) ((newL [] qs).1)))]) 0 rfl rfl rfl ?_
   refine a_calls (Bin := [.blk g2 210 [.bool false, .row ([]), .bool false, .row ([]), .bool false, .row ([]), .bool false, .row ([]), .bool false, .row ([]), wts ([]), .int .i64 0, pts ((newL [] qs).1), tris ((meshT ((ratOf n d)) ((newL [] qs).1)))]]) Tryz.func116 rfl rfl rfl rfl (d_kin_BeginF (ws := []) (by simp) (meshC_pb _ hgl) (by omega) (hq.mono (by omega))) rfl fun r_ B_ hr_ => ?_
   obtain ⟨rfl, rfl⟩ := hr_
   refine aw_nil ?_
   refine ac_seq (ac_reg ?_)
   refine w_ (p_move rfl rfl) ?_
   refine w_ (p_assign rfl rfl) ?_
   refine w_ (p_assign rfl rfl) ?_
   refine aw_nil ?_
   refine ac_ret ?_
   exact ⟨_, [1, 1], _, rvs_2 Tryz.results66 (rv_tmp rfl rfl) (rv_tmp rfl rfl), rfl, _, rfl, rfl⟩
theorem d_delaunay_NewE {b1 b2 : Bool} {l1 l2 : List Nat} {n d : Int} {zs : List (List LV)} {qs : List Pt} (h1 : IsInt (.bool b1) (u32r l1) n) (h2 : IsInt (.bool b2) (u32r l2) d) (hn : isz n ≤ 4294967295) (hd : isz d ≤ 4294967295) (hq : Qb (ratOf n d)) (hz : IsPts 4294967294 1073741824 zs qs) (hl : qs.length ≤ 6) (he : (newL [] qs).2 ≠ 0) : Does Tryz.prog 66 [.agg [.bool b1, u32r l1, .bool b2, u32r l2], .one (.row zs)] (.tup [.one (.nilp), .one (.int .i64 ((newL [] qs).2))]) := by
 refine does_ (n := 32) Tryz.func66 rfl Tryz.ntmps66 rfl ?_
 refine ac_seq (ac_reg ?_)
 refine w_ (p_boxS rfl rfl rfl rfl) ?_
 refine w_ (p_assign rfl rfl) ?_
 refine w_ (p_assign rfl rfl) ?_
 refine aw_nil ?_
 refine ac_seq (ac_reg ?_)
 refine w_ (p_move rfl rfl) ?_
 refine w_ (p_call Tryz.func114 rfl rfl rfl rfl (d_crowd_New hz hl) rfl) ?_
 refine w_ (p_move rfl rfl) ?_
 refine w_ (p_extract rfl rfl rfl) ?_
 refine w_ (p_extract rfl rfl rfl) ?_
 refine a_alloc Tryz.zeroValue106 rfl rfl fun g1 => ?_
 refine a_storeOw 0 Tryz.sizeOf106 rfl rfl rfl rfl rfl rfl rfl ?_
 refine w_ (p_assign rfl rfl) ?_
 refine aw_nil ?_
 refine ac_seq (ac_seq (ac_reg ?_))
 refine w_ (p_move rfl rfl) ?_
 refine w_ (p_cmp rfl rfl rfl rfl) ?_
 refine aw_nil ?_
 refine ac_t rfl (decide_eq_true he) ?_
 refine ac_seq (ac_reg ?_)
 refine w_ (p_move rfl rfl) ?_
 refine w_ (p_assign rfl rfl) ?_
 refine w_ (p_assign rfl rfl) ?_
 refine aw_nil ?_
 refine ac_ret ?_
 exact retB_2 Tryz.results66 (rv_tmp rfl rfl) (rv_tmp rfl rfl) (rfl)
theorem d_delaunay_NewF {b1 b2 : Bool} {l1 l2 : List Nat} {n d : Int} {zs : List (List LV)} {qs : List Pt} (h1 : IsInt (.bool b1) (u32r l1) n) (h2 : IsInt (.bool b2) (u32r l2) d) (hn : isz n ≤ 4294967295) (hd : isz d ≤ 4294967295) (hq : Qb (ratOf n d)) (hz : IsPts 4294967294 1073741824 zs qs) (hl : 6 < qs.length) : Does Tryz.prog 66 [.agg [.bool b1, u32r l1, .bool b2, u32r l2], .one (.row zs)] (.tup [.one (.nilp), .one (.int .i64 9)]) := by
 refine does_ (n := 32) Tryz.func66 rfl Tryz.ntmps66 rfl ?_
 refine ac_seq (ac_reg ?_)
 refine w_ (p_boxS rfl rfl rfl rfl) ?_
 refine w_ (p_assign rfl rfl) ?_
 refine w_ (p_assign rfl rfl) ?_
 refine aw_nil ?_
 refine ac_seq (ac_reg ?_)
 refine w_ (p_move rfl rfl) ?_
 refine w_ (p_call Tryz.func114 rfl rfl rfl rfl (d_crowd_NewFull hz hl) rfl) ?_
 refine w_ (p_move rfl rfl) ?_
 refine w_ (p_extract rfl rfl rfl) ?_
 refine w_ (p_extract rfl rfl rfl) ?_
 refine a_alloc Tryz.zeroValue106 rfl rfl fun g1 => ?_
 refine a_storeOw 0 Tryz.sizeOf106 rfl rfl rfl rfl rfl rfl rfl ?_
 refine w_ (p_assign rfl rfl) ?_
 refine aw_nil ?_
 refine ac_seq (ac_seq (ac_reg ?_))
 refine w_ (p_move rfl rfl) ?_
 refine w_ (p_cmp (b := true) rfl rfl rfl rfl) ?_
 refine aw_nil ?_
 refine ac_t rfl (rfl) ?_
 refine ac_seq (ac_reg ?_)
 refine w_ (p_move rfl rfl) ?_
 refine w_ (p_assign rfl rfl) ?_
 refine w_ (p_assign rfl rfl) ?_
 refine aw_nil ?_
 refine ac_ret ?_
 exact retB_2 Tryz.results66 (rv_tmp rfl rfl) (rv_tmp rfl rfl) (rfl)
set_option maxRecDepth 20000 in
theorem d_delaunay_with {g : Nat} {ev : Int} {ws : List Ct} {q : Rat} {y0 y1 : LV} {l : List Pt} (hq : Qb q) (hg : GoodP l) (hl : l.length ≤ 10) (hw : ws.length ≤ 1000000) : DoesB Tryz.prog 132 [.one (.ow g 0), .agg [pts l], .one (.int .i64 0)] [.blk g 210 [.bool true, pl ([-q.num, (q.den : Int)]), sg q.num, mg q.num, sg ((q.den : Int)), mg ((q.den : Int)), sg q.num, mg q.num, sg ((q.den : Int)), mg ((q.den : Int)), wts ws, .int .i64 ev, y0, y1]] fun r B => r = .one (.int .i64 0) ∧ B = [.blk g 210 [.bool true, pl ([-q.num, (q.den : Int)]), sg q.num, mg q.num, sg ((q.den : Int)), mg ((q.den : Int)), sg q.num, mg q.num, sg ((q.den : Int)), mg ((q.den : Int)), wts ((sortC (meshC q l))), .int .i64 ev, pts l, tris ((meshT q l))]] := by
 refine does_ (n := 27) Tryz.func132 rfl Tryz.ntmps132 rfl ?_
 have hcl := meshC_le q l (by omega)
 ·skip
  refine ac_seq (ac_reg ?_)
  refine w_ (p_boxS rfl rfl rfl rfl) ?_
  refine w_ (p_assign rfl rfl) ?_
  refine aw_nil ?_
  refine ac_seq (ac_seq (ac_reg ?_))
  refine w_ (p_move rfl rfl) ?_
  refine w_ (p_cmp (b := false) rfl rfl rfl rfl) ?_
  refine aw_nil ?_
  refine ac_f rfl (rfl) ?_
  refine ac_skip ?_
  refine ac_seq (ac_reg ?_)
  refine w_ (p_move rfl rfl) ?_
  refine w_ (p_loadSh Tryz.isAgg106 Tryz.sizeOf106 rfl rfl rfl rfl) ?_
  refine w_ (p_nilCheck rfl rfl rfl) ?_
  refine w_ (p_fieldOw fa_210_1 rfl rfl) ?_
  refine a_storeOw 0 Tryz.sizeOf106 rfl rfl rfl rfl rfl rfl rfl ?_
  refine aw_nil ?_
  refine ac_seq (ac_reg ?_)
  refine w_ (p_move rfl rfl) ?_
  refine w_ (p_nilCheck rfl rfl rfl) ?_
  refine w_ (p_fieldOw fa_210_0 rfl rfl) ?_
  refine a_calls (Bin := [.blk g 210 [.bool true, pl ([-q.num, (q.den : Int)]), sg q.num, mg q.num, sg ((q.den : Int)), mg ((q.den : Int)), sg q.num, mg q.num, sg ((q.den : Int)), mg ((q.den : Int)), wts ws, .int .i64 ev, pts l, y1]]) Tryz.func202 rfl rfl rfl rfl (d_kin_Now (hq.mono (by omega))) rfl fun r_ B_ hr_ => ?_
  obtain ⟨rfl, rfl⟩ := hr_
  refine a_alloc Tryz.zeroValue59 rfl rfl fun g1 => ?_
  refine a_storeOw 0 Tryz.sizeOf59 rfl rfl rfl rfl rfl rfl rfl ?_
  refine aw_nil ?_
  refine ac_seq ?_
  refine ac_drawM mixed_ 7 [19, 20, 21, 22, 23, 24, 25] [[], [0], [1], [], [], [], [4, 5]] [.one (.ow g 0), .one (.ow g 0), .one (.ow g 0), .agg [pl ([-q.num, (q.den : Int)]), sg q.num, mg q.num, sg ((q.den : Int)), mg ((q.den : Int)), sg q.num, mg q.num, sg ((q.den : Int)), mg ((q.den : Int))], .one (.ow g 0), .agg [pl ([-q.num, (q.den : Int)]), sg q.num, mg q.num, sg ((q.den : Int)), mg ((q.den : Int)), sg q.num, mg q.num, sg ((q.den : Int)), mg ((q.den : Int))], .un] 6 (fun u B => u = .one (cts ((meshC q l))) ∧ B = [.blk g 210 [.bool true, pl ([-q.num, (q.den : Int)]), sg q.num, mg q.num, sg ((q.den : Int)), mg ((q.den : Int)), sg q.num, mg q.num, sg ((q.den : Int)), mg ((q.den : Int)), wts ws, .int .i64 ev, pts l, tris ((meshT q l))], .blk g1 59 [pl ([-q.num, (q.den : Int)]), sg q.num, mg q.num, sg ((q.den : Int)), mg ((q.den : Int)), sg q.num, mg q.num, sg ((q.den : Int)), mg ((q.den : Int))]]) rfl rfl rfl rfl ⟨p_move rfl rfl, p_nilCheck rfl rfl rfl, p_fieldOw fa_210_0 rfl rfl, p_loadOw 0 Tryz.isAgg59 Tryz.sizeOf59 rfl rfl rfl rfl rfl, p_move rfl rfl, p_loadOw 0 Tryz.isAgg59 Tryz.sizeOf59 rfl rfl rfl rfl rfl, ?_, trivial⟩ ?_ ?_
  ·refine am_of_aw fun N k_ => ?_
   refine aw_front 1 rfl ?_
   refine a_calls (Bin := [.blk g 210 [.bool true, pl ([-q.num, (q.den : Int)]), sg q.num, mg q.num, sg ((q.den : Int)), mg ((q.den : Int)), sg q.num, mg q.num, sg ((q.den : Int)), mg ((q.den : Int)), wts ws, .int .i64 ev, pts l, y1]]) Tryz.func131 rfl rfl rfl rfl (d_delaunay_build hq hg (by omega)) rfl fun r_ B_ hr_ => ?_
   obtain ⟨rfl, rfl⟩ := hr_
   exact aw_nil (k_ _ _ ⟨rfl, rfl⟩)
  ·rintro u_ B_ ⟨rfl, rfl⟩
   exact ⟨p_move rfl rfl, p_nilCheck rfl rfl rfl, p_fieldOw fa_210_0 rfl rfl, p_loadOw 1 Tryz.isAgg59 Tryz.sizeOf59 rfl rfl rfl rfl rfl, p_move rfl rfl, p_loadOw 1 Tryz.isAgg59 Tryz.sizeOf59 rfl rfl rfl rfl rfl, trivial, trivial⟩
  ·rintro u_ B_ ⟨rfl, rfl⟩
   refine ⟨_, rfl, ?_⟩
   refine a_calls (Bin := [.blk g 210 [.bool true, pl ([-q.num, (q.den : Int)]), sg q.num, mg q.num, sg ((q.den : Int)), mg ((q.den : Int)), sg q.num, mg q.num, sg ((q.den : Int)), mg ((q.den : Int)), wts ws, .int .i64 ev, pts l, tris ((meshT q l))]]) Tryz.func116 rfl rfl rfl rfl (d_kin_BeginT (hq.mono (by omega)) hw (meshC_pb _ hg) (by omega) (hq.mono (by omega))) rfl fun r_ B_ hr_ => ?_
   obtain ⟨rfl, rfl⟩ := hr_
   refine aw_nil ?_
   refine ac_seq (ac_reg ?_)
   refine w_ (p_assign rfl rfl) ?_
   refine aw_nil ?_
   refine ac_ret ?_
   exact ⟨_, [1], _, rvs_1 Tryz.results132 (rv_tmp rfl rfl), rfl, ⟨rfl, rfl⟩⟩
theorem d_delaunay_withE {g T : Nat} {ys : List LV} {l : List Pt} {e : Int} (he : e ≠ 0) : DoesB Tryz.prog 132 [.one (.ow g 0), .agg [pts l], .one (.int .i64 e)] [.blk g T (ys)] fun r B => r = .one (.int .i64 e) ∧ B = [.blk g T (ys)] := by
 refine does_ (n := 27) Tryz.func132 rfl Tryz.ntmps132 rfl ?_
 refine ac_seq (ac_reg ?_)
 refine w_ (p_boxS rfl rfl rfl rfl) ?_
 refine w_ (p_assign rfl rfl) ?_
 refine aw_nil ?_
 refine ac_seq (ac_seq (ac_reg ?_))
 refine w_ (p_move rfl rfl) ?_
 refine w_ (p_cmp rfl rfl rfl rfl) ?_
 refine aw_nil ?_
 refine ac_t rfl (decide_eq_true he) ?_
 refine ac_seq (ac_reg ?_)
 refine w_ (p_move rfl rfl) ?_
 refine w_ (p_assign rfl rfl) ?_
 refine aw_nil ?_
 refine ac_ret ?_
 exact ⟨_, [], _, rvs_1 Tryz.results132 (rv_tmp rfl rfl), rfl, ⟨rfl, rfl⟩⟩
set_option maxRecDepth 20000 in
theorem d_delaunay_Put {g : Nat} {ev : Int} {ws : List Ct} {q : Rat} {y1 : LV} {lx ly : List (List LV)} {px py : List Int} {b : Bool} {ll : List Nat} {d id : Int} {l : List Pt} (hx : IsInts lx px) (hy : IsInts ly py) (hd : IsInt (.bool b) (u32r ll) d) (hk : Cs 4294967294 1073741824 (Crv.mk px py d)) (hq : Qb q) (hg : GoodP l) (hl : l.length ≤ 9) (hw : ws.length ≤ 1000000) (hp : Nml (Pt.mk (Crv.norm (Crv.mk px py d)) id).c ∧ Cb (Pt.mk (Crv.norm (Crv.mk px py d)) id).c) (he : putE l (Pt.mk (Crv.norm (Crv.mk px py d)) id) = 0) : DoesB Tryz.prog 67 [.one (.ow g 0), .agg [.row lx, .row ly, .bool b, u32r ll, .int .i64 id]] [.blk g 210 [.bool true, pl ([-q.num, (q.den : Int)]), sg q.num, mg q.num, sg ((q.den : Int)), mg ((q.den : Int)), sg q.num, mg q.num, sg ((q.den : Int)), mg ((q.den : Int)), wts ws, .int .i64 ev, pts l, y1]] fun r B => r = .one (.int .i64 0) ∧ B = [.blk g 210 [.bool true, pl ([-q.num, (q.den : Int)]), sg q.num, mg q.num, sg ((q.den : Int)), mg ((q.den : Int)), sg q.num, mg q.num, sg ((q.den : Int)), mg ((q.den : Int)), wts ((sortC (meshC q ((put l (Pt.mk (Crv.norm (Crv.mk px py d)) id)))))), .int .i64 ev, pts ((put l (Pt.mk (Crv.norm (Crv.mk px py d)) id))), tris ((meshT q ((put l (Pt.mk (Crv.norm (Crv.mk px py d)) id)))))]] := by
 refine does_ (n := 15) Tryz.func67 rfl Tryz.ntmps67 rfl ?_
 refine ac_seq (ac_reg ?_)
 refine w_ (p_boxS rfl rfl rfl rfl) ?_
 refine w_ (p_assign rfl rfl) ?_
 refine aw_nil ?_
 refine ac_seq ?_
 refine ac_draw mixed_ 9 [5, 6, 7, 8, 9, 10, 11, 12, 13] [[], [], [1], [2], [3], [], [4, 5], [6], [6]] [.one (.ow g 0), .one (.ow g 0), .one (.ow g 0), .one (.ow g 12), .agg [pts l], .agg [.row lx, .row ly, .bool b, u32r ll, .int .i64 id], .tup [.agg [pts ((if putE l (Pt.mk (Crv.norm (Crv.mk px py d)) id) = 0 then put l (Pt.mk (Crv.norm (Crv.mk px py d)) id) else l))], .one (.int .i64 (putE l (Pt.mk (Crv.norm (Crv.mk px py d)) id)))], .agg [pts ((if putE l (Pt.mk (Crv.norm (Crv.mk px py d)) id) = 0 then put l (Pt.mk (Crv.norm (Crv.mk px py d)) id) else l))], .one (.int .i64 (putE l (Pt.mk (Crv.norm (Crv.mk px py d)) id)))] rfl rfl rfl ⟨p_move rfl rfl, p_move rfl rfl, p_nilCheck rfl rfl rfl, p_fieldOw fa_210_1 rfl rfl, p_loadOw 0 Tryz.isAgg106 Tryz.sizeOf106 rfl rfl rfl rfl rfl, p_loadSh Tryz.isAgg76 Tryz.sizeOf76 rfl rfl rfl rfl, p_call Tryz.func119 rfl rfl rfl rfl (d_crowd_Put hx hy hd (hk) (by omega)) rfl, p_extract rfl rfl rfl, p_extract rfl rfl rfl, trivial⟩ rfl ?_
 refine aw_slotEq 12 (y := .agg [pts (put l (Pt.mk (Crv.norm (Crv.mk px py d)) id))]) rfl (by rw [if_pos he]) ?_
 refine aw_slotEq 13 (y := .one (.int .i64 0)) rfl (by rw [he]) ?_
 refine a_calls (Bin := [.blk g 210 [.bool true, pl ([-q.num, (q.den : Int)]), sg q.num, mg q.num, sg ((q.den : Int)), mg ((q.den : Int)), sg q.num, mg q.num, sg ((q.den : Int)), mg ((q.den : Int)), wts ws, .int .i64 ev, pts l, y1]]) Tryz.func132 rfl rfl rfl rfl (d_delaunay_with hq (fun x hx_ => (put_mem hx_).elim (fun e => e ▸ hp) (hg x)) (by rw [put_len]; omega) hw) rfl fun r_ B_ hr_ => ?_
 obtain ⟨rfl, rfl⟩ := hr_
 refine w_ (p_assign rfl rfl) ?_
 refine aw_nil ?_
 refine ac_ret ?_
 exact ⟨_, [], _, rvs_1 Tryz.results67 (rv_tmp rfl rfl), rfl, ⟨rfl, rfl⟩⟩
set_option maxRecDepth 20000 in
theorem d_delaunay_PutE {g : Nat} {ev : Int} {ws : List Ct} {q : Rat} {y1 : LV} {lx ly : List (List LV)} {px py : List Int} {b : Bool} {ll : List Nat} {d id : Int} {l : List Pt} (hx : IsInts lx px) (hy : IsInts ly py) (hd : IsInt (.bool b) (u32r ll) d) (hk : Cs 4294967294 1073741824 (Crv.mk px py d)) (hl : l.length ≤ 999) (he : putE l (Pt.mk (Crv.norm (Crv.mk px py d)) id) ≠ 0) : DoesB Tryz.prog 67 [.one (.ow g 0), .agg [.row lx, .row ly, .bool b, u32r ll, .int .i64 id]] [.blk g 210 [.bool true, pl ([-q.num, (q.den : Int)]), sg q.num, mg q.num, sg ((q.den : Int)), mg ((q.den : Int)), sg q.num, mg q.num, sg ((q.den : Int)), mg ((q.den : Int)), wts ws, .int .i64 ev, pts l, y1]] fun r B => r = .one (.int .i64 ((putE l (Pt.mk (Crv.norm (Crv.mk px py d)) id)))) ∧ B = [.blk g 210 [.bool true, pl ([-q.num, (q.den : Int)]), sg q.num, mg q.num, sg ((q.den : Int)), mg ((q.den : Int)), sg q.num, mg q.num, sg ((q.den : Int)), mg ((q.den : Int)), wts ws, .int .i64 ev, pts l, y1]] := by
 refine does_ (n := 15) Tryz.func67 rfl Tryz.ntmps67 rfl ?_
 refine ac_seq (ac_reg ?_)
 refine w_ (p_boxS rfl rfl rfl rfl) ?_
 refine w_ (p_assign rfl rfl) ?_
 refine aw_nil ?_
 refine ac_seq ?_
 refine ac_draw mixed_ 9 [5, 6, 7, 8, 9, 10, 11, 12, 13] [[], [], [1], [2], [3], [], [4, 5], [6], [6]] [.one (.ow g 0), .one (.ow g 0), .one (.ow g 0), .one (.ow g 12), .agg [pts l], .agg [.row lx, .row ly, .bool b, u32r ll, .int .i64 id], .tup [.agg [pts ((if putE l (Pt.mk (Crv.norm (Crv.mk px py d)) id) = 0 then put l (Pt.mk (Crv.norm (Crv.mk px py d)) id) else l))], .one (.int .i64 (putE l (Pt.mk (Crv.norm (Crv.mk px py d)) id)))], .agg [pts ((if putE l (Pt.mk (Crv.norm (Crv.mk px py d)) id) = 0 then put l (Pt.mk (Crv.norm (Crv.mk px py d)) id) else l))], .one (.int .i64 (putE l (Pt.mk (Crv.norm (Crv.mk px py d)) id)))] rfl rfl rfl ⟨p_move rfl rfl, p_move rfl rfl, p_nilCheck rfl rfl rfl, p_fieldOw fa_210_1 rfl rfl, p_loadOw 0 Tryz.isAgg106 Tryz.sizeOf106 rfl rfl rfl rfl rfl, p_loadSh Tryz.isAgg76 Tryz.sizeOf76 rfl rfl rfl rfl, p_call Tryz.func119 rfl rfl rfl rfl (d_crowd_Put hx hy hd (hk) (by omega)) rfl, p_extract rfl rfl rfl, p_extract rfl rfl rfl, trivial⟩ rfl ?_
 refine a_calls (Bin := [.blk g 210 [.bool true, pl ([-q.num, (q.den : Int)]), sg q.num, mg q.num, sg ((q.den : Int)), mg ((q.den : Int)), sg q.num, mg q.num, sg ((q.den : Int)), mg ((q.den : Int)), wts ws, .int .i64 ev, pts l, y1]]) Tryz.func132 rfl rfl rfl rfl (d_delaunay_withE he) rfl fun r_ B_ hr_ => ?_
 obtain ⟨rfl, rfl⟩ := hr_
 refine w_ (p_assign rfl rfl) ?_
 refine aw_nil ?_
 refine ac_ret ?_
 exact ⟨_, [], _, rvs_1 Tryz.results67 (rv_tmp rfl rfl), rfl, ⟨rfl, rfl⟩⟩
set_option maxRecDepth 20000 in
theorem d_delaunay_Points {g : Nat} {c0 c1 c2 c3 c4 c5 c6 c7 c8 c9 c10 c11 y1 : LV} {l : List Pt} (hok : ∀ p ∈ l, PtOk 4294967294 1073741824 p) (hl : l.length < 1073741824) : DoesB Tryz.prog 68 [.one (.ow g 0)] [.blk g 210 [c0, c1, c2, c3, c4, c5, c6, c7, c8, c9, c10, c11, pts l, y1]] fun r B => r = .one (pts l) ∧ B = [.blk g 210 [c0, c1, c2, c3, c4, c5, c6, c7, c8, c9, c10, c11, pts l, y1]] := by
 refine does_ (n := 8) Tryz.func68 rfl Tryz.ntmps68 rfl ?_
 refine ac_seq (ac_reg ?_)
 refine w_ (p_assign rfl rfl) ?_
 refine aw_nil ?_
 refine ac_seq (ac_reg ?_)
 refine w_ (p_move rfl rfl) ?_
 refine w_ (p_nilCheck rfl rfl rfl) ?_
 refine w_ (p_fieldOw fa_210_1 rfl rfl) ?_
 refine w_ (p_loadOw 0 Tryz.isAgg106 Tryz.sizeOf106 rfl rfl rfl rfl rfl) ?_
 refine w_ (p_call Tryz.func120 rfl rfl rfl rfl (d_crowd_All (hok) (hl)) rfl) ?_
 refine w_ (p_assign rfl rfl) ?_
 refine aw_nil ?_
 refine ac_ret ?_
 exact ⟨_, [], _, rvs_1 Tryz.results68 (rv_tmp rfl rfl), rfl, ⟨rfl, rfl⟩⟩
end Orr

namespace Orr
open Go Go.Proofs
theorem wake_tris : (meshT (ratOf 0 0) (newL [] [(Pt.mk (still 0 0) 1), (Pt.mk (still 1 0) 2), (Pt.mk (still 0 1) 3), (Pt.mk (still 1 1) 4)]).1).length = 4 := by decide +kernel
theorem wake_eds : (edgesOf (meshT (ratOf 0 0) (newL [] [(Pt.mk (still 0 0) 1), (Pt.mk (still 1 0) 2), (Pt.mk (still 0 1) 3), (Pt.mk (still 1 1) 4)]).1)).length = 6 := by decide +kernel
theorem wake_good : GoodP [(Pt.mk (still 0 0) 1), (Pt.mk (still 1 0) 2), (Pt.mk (still 0 1) 3), (Pt.mk (still 1 1) 4)] := by
 intro x hx
 simp only [List.mem_cons, List.not_mem_nil, or_false] at hx
 rcases hx with rfl | rfl | rfl | rfl <;> exact good_still (by decide) (by decide)
set_option maxRecDepth 20000 in
theorem d_law22_wakes  : Does Tryz.prog 58 [] (.one (.bool true)) := by
 refine does_ (n := 35) Tryz.func58 rfl Tryz.ntmps58 rfl ?_
 refine ac_seq (ac_reg ?_)
 refine w_ (p_assign rfl rfl) ?_
 refine aw_nil ?_
 refine ac_seq (ac_reg ?_)
 refine w_ (p_build (bd_57) rfl rfl rfl rfl) ?_
 refine w_ (p_call Tryz.func45 rfl rfl rfl rfl (d_curve_Still (by decide) (by decide)) rfl) ?_
 refine w_ (p_build (bd_76) rfl rfl rfl rfl) ?_
 refine w_ (p_call Tryz.func45 rfl rfl rfl rfl (d_curve_Still (by decide) (by decide)) rfl) ?_
 refine w_ (p_build (bd_76) rfl rfl rfl rfl) ?_
 refine w_ (p_call Tryz.func45 rfl rfl rfl rfl (d_curve_Still (by decide) (by decide)) rfl) ?_
 refine w_ (p_build (bd_76) rfl rfl rfl rfl) ?_
 refine w_ (p_call Tryz.func45 rfl rfl rfl rfl (d_curve_Still (by decide) (by decide)) rfl) ?_
 refine w_ (p_build (bd_76) rfl rfl rfl rfl) ?_
 refine w_ (p_lit Tryz.runUnderlying22 Tryz.sizeOf76 Tryz.zeroValue76 rfl rfl rfl rfl rfl rfl rfl rfl rfl rfl) ?_
 refine a_calls (Bin := []) Tryz.func66 rfl rfl rfl rfl (d_delaunay_New (l1 := []) (l2 := []) (qs := [(Pt.mk (still 0 0) 1), (Pt.mk (still 1 0) 2), (Pt.mk (still 0 1) 3), (Pt.mk (still 1 1) 4)]) isInt_zero isInt_zero (by decide) (by decide) (qs_0.mono (by omega)) (isPts_n (l := [(Pt.mk (still 0 0) 1), (Pt.mk (still 1 0) 2), (Pt.mk (still 0 1) 3), (Pt.mk (still 1 1) 4)]) (fun x hx => ⟨(wake_good x hx).1, (wake_good x hx).2.mono (by omega) (by omega)⟩)) wake_good (show 4 ≤ 6 by decide) (by decide +kernel)) rfl fun r_ B_ hr_ => ?_
 obtain ⟨g, rfl, rfl⟩ := hr_
 refine w_ (p_move rfl rfl) ?_
 refine w_ (p_extract rfl rfl rfl) ?_
 refine w_ (p_extract rfl rfl rfl) ?_
 refine w_ (p_assign rfl rfl) ?_
 refine w_ (p_assign rfl rfl) ?_
 refine aw_nil ?_
 refine ac_seq (ac_reg ?_)
 refine w_ (p_move rfl rfl) ?_
 refine w_ (p_cmp (b := true) rfl rfl rfl rfl) ?_
 refine w_ (p_move rfl rfl) ?_
 refine w_ ((p_grun rfl rfl (rfl) (p_move rfl rfl))) ?_
 refine w_ ((p_grun rfl rfl (rfl) (p_neNil Tryz.runUnderlying133 rfl rfl rfl rfl rfl))) ?_
 refine w_ (p_pickT rfl (rfl) rfl rfl) ?_
 refine w_ (p_move rfl rfl) ?_
 refine w_ ((p_grun rfl rfl (rfl) (p_move rfl rfl))) ?_
 refine aw_grun rfl rfl (rfl) ?_
 refine a_calls (Bin := [.blk g 210 [.bool true, pl ([-((ratOf 0 0)).num, (((ratOf 0 0)).den : Int)]), sg ((((ratOf 0 0))).num), mg ((((ratOf 0 0))).num), sg (((((ratOf 0 0))).den : Int)), mg (((((ratOf 0 0))).den : Int)), sg ((((ratOf 0 0))).num), mg ((((ratOf 0 0))).num), sg (((((ratOf 0 0))).den : Int)), mg (((((ratOf 0 0))).den : Int)), wts ((sortC (meshC ((ratOf 0 0)) ((newL [] [(Pt.mk (still 0 0) 1), (Pt.mk (still 1 0) 2), (Pt.mk (still 0 1) 3), (Pt.mk (still 1 1) 4)]).1)))), .int .i64 0, pts ((newL [] [(Pt.mk (still 0 0) 1), (Pt.mk (still 1 0) 2), (Pt.mk (still 0 1) 3), (Pt.mk (still 1 1) 4)]).1), tris ((meshT ((ratOf 0 0)) ((newL [] [(Pt.mk (still 0 0) 1), (Pt.mk (still 1 0) 2), (Pt.mk (still 0 1) 3), (Pt.mk (still 1 1) 4)]).1)))]]) Tryz.func54 rfl rfl rfl rfl (d_mesh_Triples (g := g) (show (meshT (ratOf 0 0) (newL [] [(Pt.mk (still 0 0) 1), (Pt.mk (still 1 0) 2), (Pt.mk (still 0 1) 3), (Pt.mk (still 1 1) 4)]).1).length ≤ 1000 by rw [wake_tris]; decide)) rfl fun r_ B_ hr_ => ?_
 obtain ⟨rfl, rfl⟩ := hr_
 refine aw_grun rfl rfl (rfl) ?_
 refine w_ (p_len (m := 4) Tryz.runUnderlying63 rfl (by rw [rlen_tris, wake_tris]) rfl) ?_
 refine w_ ((p_grun rfl rfl (rfl) (p_cmp (b := true) rfl rfl rfl rfl))) ?_
 refine w_ (p_pickT rfl (rfl) rfl rfl) ?_
 refine w_ (p_move rfl rfl) ?_
 refine w_ ((p_grun rfl rfl (rfl) (p_move rfl rfl))) ?_
 refine aw_grun rfl rfl (rfl) ?_
 refine a_calls (Bin := [.blk g 210 [.bool true, pl ([-((ratOf 0 0)).num, (((ratOf 0 0)).den : Int)]), sg ((((ratOf 0 0))).num), mg ((((ratOf 0 0))).num), sg (((((ratOf 0 0))).den : Int)), mg (((((ratOf 0 0))).den : Int)), sg ((((ratOf 0 0))).num), mg ((((ratOf 0 0))).num), sg (((((ratOf 0 0))).den : Int)), mg (((((ratOf 0 0))).den : Int)), wts ((sortC (meshC ((ratOf 0 0)) ((newL [] [(Pt.mk (still 0 0) 1), (Pt.mk (still 1 0) 2), (Pt.mk (still 0 1) 3), (Pt.mk (still 1 1) 4)]).1)))), .int .i64 0, pts ((newL [] [(Pt.mk (still 0 0) 1), (Pt.mk (still 1 0) 2), (Pt.mk (still 0 1) 3), (Pt.mk (still 1 1) 4)]).1), tris ((meshT ((ratOf 0 0)) ((newL [] [(Pt.mk (still 0 0) 1), (Pt.mk (still 1 0) 2), (Pt.mk (still 0 1) 3), (Pt.mk (still 1 1) 4)]).1)))]]) Tryz.func127 rfl rfl rfl rfl (d_mesh_Edges (g := g) (show (meshT (ratOf 0 0) (newL [] [(Pt.mk (still 0 0) 1), (Pt.mk (still 1 0) 2), (Pt.mk (still 0 1) 3), (Pt.mk (still 1 1) 4)]).1).length ≤ 1000 by rw [wake_tris]; decide)) rfl fun r_ B_ hr_ => ?_
 obtain ⟨rfl, rfl⟩ := hr_
 refine aw_grun rfl rfl (rfl) ?_
 refine w_ (p_len (m := 6) Tryz.runUnderlying114 rfl (by rw [rlen_eds, wake_eds]) rfl) ?_
 refine w_ ((p_grun rfl rfl (rfl) (p_cmp (b := true) rfl rfl rfl rfl))) ?_
 refine w_ (p_pickT rfl (rfl) rfl rfl) ?_
 refine w_ (p_assign rfl rfl) ?_
 refine aw_nil ?_
 refine ac_ret ?_
 exact retB_1 Tryz.results58 (rv_tmp rfl rfl) (rfl)
set_option maxRecDepth 20000 in
theorem d_law22_News {zs : List (List LV)} {n : Int} (hz : Named zs) (hn : -9223372036854775808 ≤ n ∧ n ≤ 9223372036854775807) : Does Tryz.prog 13 [.one (.row zs), .one (.int .i64 n)] (.one (.bool true)) := by
 refine does_ (n := 141) Tryz.func13 rfl Tryz.ntmps13 rfl ?_
 obtain ⟨N, hN, hN8⟩ : ∃ N : Nat, n % 9 = (N : Int) ∧ N ≤ 8 := ⟨(n % 9).toNat, by omega, by omega⟩
 ·skip
  refine ac_seq (ac_reg ?_)
  refine w_ (p_assign rfl rfl) ?_
  refine aw_nil ?_
  refine ac_seq (ac_reg ?_)
  refine w_ (p_move rfl rfl) ?_
  refine w_ (p_call Tryz.func18 rfl rfl rfl rfl (d_keep_Within (hn) (by omega)) rfl) ?_
  refine w_ (p_assign rfl rfl) ?_
  refine aw_nil ?_
  refine ac_seq (ac_reg ?_)
  refine w_ (p_assign rfl rfl) ?_
  refine aw_nil ?_
  refine ac_cut (fun L B => ∃ i r, i ≤ N ∧ (zs.length ≤ i ∨ i = N) ∧ L = [(1, .one (.int .i64 (((N : Nat) : Int)))), (5, .one (.orow r 5 0 i))] ∧ B = [.row r 76 5 ((npts zs i).map ofPt)]) ?_ ?_
  ·skip
   refine ac_seq (ac_reg ?_)
   refine w_ (p_assign rfl rfl) ?_
   refine aw_nil ?_
   refine ac_block ?_
   refine ac_slotEq 1 (y := .one (.int .i64 ((N : Nat) : Int))) rfl (by rw [hN]) ?_
   refine ac_ownNil [5] 76 5 rfl (allAre1 rfl) rfl ?_
   refine ac_pick [0, 1, 5, 6] rfl ?_
   refine ac_loop (fun m L B => ∃ i r, i ≤ zs.length ∧ i ≤ N ∧ m = N - i ∧ L = [(0, .one (.row zs)), (1, .one (.int .i64 (((N : Nat) : Int)))), (5, .one (.orow r 5 0 i)), (6, .one (.int .i64 (((i : Nat) : Int))))] ∧ B = [.row r 76 5 ((npts zs i).map ofPt)]) (m := _) ⟨0, none, Nat.zero_le _, Nat.zero_le _, rfl, rfl, rfl⟩ ?_
   rintro m L B ⟨i, r, hp0, hp1, hm, rfl, rfl⟩
   by_cases h1 : i < zs.length
   ·by_cases h2 : i < N
    ·have hii : i * i ≤ 8 * 8 := Nat.mul_le_mul (by omega) (by omega)
     obtain ⟨x0, x1, x2, x3, id, hze, hid⟩ := hz zs[i] (List.getElem_mem h1)
     have hzi : zs[i]? = some [x0, x1, x2, x3, .int .i64 id] := by rw [List.getElem?_eq_getElem h1, hze]
     have hpt := npt_in h1
     rw [hze] at hpt
     refine ac_seq (ac_seq (ac_reg ?_))
     refine w_ (p_move rfl rfl) ?_
     refine w_ (p_move rfl rfl) ?_
     refine w_ (p_len (m := zs.length) Tryz.runUnderlying22 rfl (rfl) rfl) ?_
     refine w_ (p_cmp rfl rfl rfl rfl) ?_
     refine w_ (p_move rfl rfl) ?_
     refine w_ ((p_grun rfl rfl (decide_eq_true (by omega)) (p_move rfl rfl))) ?_
     refine w_ ((p_grun rfl rfl (decide_eq_true (by omega)) (p_move rfl rfl))) ?_
     refine w_ ((p_grun rfl rfl (decide_eq_true (by omega)) (p_cmp rfl rfl rfl rfl))) ?_
     refine w_ (p_pickT rfl (decide_eq_true (by omega)) rfl rfl) ?_
     refine aw_nil ?_
     refine ac_t rfl (decide_eq_true (by omega)) ?_
     refine ac_skip ?_
     refine ac_seq (ac_block ?_)
     refine ac_draw mixed_ 14 [26, 27, 28, 29, 30, 31, 32, 33, 34, 35, 36, 37, 38, 39] [[], [], [], [], [2, 3], [1, 4], [], [], [6, 7], [8], [9], [10], [5, 11], [12]] [.one (.orow r 5 0 i), .one (.int .i64 (((i : Nat) : Int))), .one (.int .i64 (((i : Nat) : Int))), .one (.int .i64 (((i : Nat) : Int))), .one (.int .i64 (((i * i : Nat) : Int))), .agg [pl (((still (((i : Nat) : Int)) (((i * i : Nat) : Int)))).x), pl (((still (((i : Nat) : Int)) (((i * i : Nat) : Int)))).y), sg (((still (((i : Nat) : Int)) (((i * i : Nat) : Int)))).d), mg (((still (((i : Nat) : Int)) (((i * i : Nat) : Int)))).d)], .one (.row zs), .one (.int .i64 (((i : Nat) : Int))), .one (.sh [x0, x1, x2, x3, .int .i64 id]), .one (.sh [.int .i64 id]), .one (.int .i64 id), .one (.int .i64 ((id % 40))), .agg [pl (((still (((i : Nat) : Int)) (((i * i : Nat) : Int)))).x), pl (((still (((i : Nat) : Int)) (((i * i : Nat) : Int)))).y), sg (((still (((i : Nat) : Int)) (((i * i : Nat) : Int)))).d), mg (((still (((i : Nat) : Int)) (((i * i : Nat) : Int)))).d), .int .i64 ((id % 40))], .one (.row [[pl (((still (((i : Nat) : Int)) (((i * i : Nat) : Int)))).x), pl (((still (((i : Nat) : Int)) (((i * i : Nat) : Int)))).y), sg (((still (((i : Nat) : Int)) (((i * i : Nat) : Int)))).d), mg (((still (((i : Nat) : Int)) (((i * i : Nat) : Int)))).d), .int .i64 ((id % 40))]])] rfl rfl rfl ⟨p_move rfl rfl, p_move rfl rfl, p_move rfl rfl, p_move rfl rfl, p_mul (r := ((i * i : Nat) : Int)) rfl rfl (i64_is (by rw [Int.natCast_mul]) (by omega)) rfl, p_call Tryz.func45 rfl rfl rfl rfl (d_curve_Still (by omega) (by omega)) rfl, p_move rfl rfl, p_move rfl rfl, p_index (i) Tryz.runUnderlying22 Tryz.sizeOf76 rfl rfl (rfl) (hzi) rfl rfl, p_fieldSh fa_76_1 rfl rfl rfl, p_loadSh Tryz.isAgg3 Tryz.sizeOf3 rfl rfl rfl rfl, p_call Tryz.func18 rfl rfl rfl rfl (d_keep_Within (hid) (by omega)) rfl, p_build (bd_76) rfl rfl rfl rfl, p_lit Tryz.runUnderlying22 Tryz.sizeOf76 Tryz.zeroValue76 rfl rfl rfl rfl rfl rfl rfl rfl rfl rfl, trivial⟩ rfl ?_
     refine a_append (ls2 := (npts zs (i + 1)).map ofPt) (m2 := i + 1) 0 Tryz.runUnderlying22 Tryz.runUnderlying22 Tryz.typeInfo76 rfl rfl Tryz.sizeOf76 Tryz.zeroValue76 rfl rfl rfl rfl rfl rfl rfl (by rw [List.length_map, npts_len]; exact Nat.le_refl _) (one_w rfl) (one_f rfl) (by show _ + 1 < _; omega) (by rw [List.take_of_length_le (by rw [List.length_map, npts_len]; exact Nat.le_refl _), npts_snoc, hpt]; rfl) (rfl) fun r1 => ?_
     refine w_ (p_assign rfl rfl) ?_
     refine aw_nil ?_
     refine ac_reg ?_
     refine w_ (p_move rfl rfl) ?_
     refine w_ (p_add (r := ((i + 1 : Nat) : Int)) rfl rfl (i64_is (by omega) (by omega)) rfl) ?_
     refine w_ (p_assign rfl rfl) ?_
     refine aw_pick [0, 1, 5, 6] rfl ?_
     refine aw_nil ?_
     refine ⟨_, ?_, i + 1, r1, by omega, by omega, rfl, rfl, rfl⟩
     omega
    ·skip
     refine ac_seq (ac_seq (ac_reg ?_))
     refine w_ (p_move rfl rfl) ?_
     refine w_ (p_move rfl rfl) ?_
     refine w_ (p_len (m := zs.length) Tryz.runUnderlying22 rfl (rfl) rfl) ?_
     refine w_ (p_cmp rfl rfl rfl rfl) ?_
     refine w_ (p_move rfl rfl) ?_
     refine w_ ((p_grun rfl rfl (decide_eq_true (by omega)) (p_move rfl rfl))) ?_
     refine w_ ((p_grun rfl rfl (decide_eq_true (by omega)) (p_move rfl rfl))) ?_
     refine w_ ((p_grun rfl rfl (decide_eq_true (by omega)) (p_cmp rfl rfl rfl rfl))) ?_
     refine w_ (p_pickT rfl (decide_eq_true (by omega)) rfl rfl) ?_
     refine aw_nil ?_
     refine ac_f rfl (decide_eq_false (by omega)) ?_
     refine ac_pick [1, 5] rfl ?_
     refine ac_exit ?_
     repeat refine seqQ_exit ?_
     refine blkQ_here ?_
     exact ⟨i, r, by omega, by omega, rfl, rfl⟩
   ·skip
    refine ac_seq (ac_seq (ac_reg ?_))
    refine w_ (p_move rfl rfl) ?_
    refine w_ (p_move rfl rfl) ?_
    refine w_ (p_len (m := zs.length) Tryz.runUnderlying22 rfl (rfl) rfl) ?_
    refine w_ (p_cmp rfl rfl rfl rfl) ?_
    refine w_ (p_move rfl rfl) ?_
    refine w_ (p_gskip rfl rfl (decide_eq_false (by omega)) rfl) ?_
    refine w_ (p_gskip rfl rfl (decide_eq_false (by omega)) rfl) ?_
    refine w_ (p_gskip rfl rfl (decide_eq_false (by omega)) rfl) ?_
    refine w_ (p_pickF rfl (decide_eq_false (by omega)) rfl rfl) ?_
    refine aw_nil ?_
    refine ac_f rfl (rfl) ?_
    refine ac_pick [1, 5] rfl ?_
    refine ac_exit ?_
    repeat refine seqQ_exit ?_
    refine blkQ_here ?_
    exact ⟨i, r, by omega, by omega, rfl, rfl⟩
  ·rintro L B ⟨i, r, hp0, hp1, rfl, rfl⟩
   skip
   ·skip
    refine ac_cut (fun L B => L = [(5, .one (pts ((npts zs N))))] ∧ B = []) ?_ ?_
    ·skip
     refine ac_seq (ac_reg ?_)
     refine w_ (p_move rfl rfl) ?_
     refine w_ (p_len (m := i) Tryz.runUnderlying22 rfl (rfl) rfl) ?_
     refine w_ (p_assign rfl rfl) ?_
     refine aw_nil ?_
     refine ac_block ?_
     refine ac_pick [1, 5, 7] rfl ?_
     refine ac_loop (fun m L B => ∃ i r, i ≤ N ∧ (zs.length ≤ i ∨ i = N) ∧ m = N - i ∧ L = [(1, .one (.int .i64 (((N : Nat) : Int)))), (5, .one (.orow r 5 0 i)), (7, .one (.int .i64 (((i : Nat) : Int))))] ∧ B = [.row r 76 5 ((npts zs i).map ofPt)]) (m := _) ⟨i, r, hp0, hp1, rfl, rfl, rfl⟩ ?_
     rintro m L B ⟨i, r, hp0, hp1, hm, rfl, rfl⟩
     by_cases h2 : i < N
     ·have hii : i * i ≤ 8 * 8 := Nat.mul_le_mul (by omega) (by omega)
      have hnm : (-((i : Nat) : Int)) * ((i : Nat) : Int) = -((i * i : Nat) : Int) := by rw [Int.neg_mul, Int.natCast_mul]
      have hpt := npt_out (zs := zs) (i := i) (by omega)
      refine ac_seq (ac_seq (ac_reg ?_))
      refine w_ (p_move rfl rfl) ?_
      refine w_ (p_move rfl rfl) ?_
      refine w_ (p_cmp rfl rfl rfl rfl) ?_
      refine aw_nil ?_
      refine ac_t rfl (decide_eq_true (by omega)) ?_
      refine ac_skip ?_
      refine ac_seq (ac_block (ac_reg ?_))
      refine w_ (p_move rfl rfl) ?_
      refine w_ (p_move rfl rfl) ?_
      refine w_ (p_move rfl rfl) ?_
      refine w_ (p_neg (r := (-(((i : Nat) : Int)))) rfl (i64_is rfl (by omega)) rfl) ?_
      refine w_ (p_move rfl rfl) ?_
      refine w_ (p_mul (r := (-((i * i : Nat) : Int))) rfl rfl (i64_is hnm (by omega)) rfl) ?_
      refine w_ (p_call Tryz.func45 rfl rfl rfl rfl (d_curve_Still (by omega) (by omega)) rfl) ?_
      refine w_ (p_move rfl rfl) ?_
      refine w_ (p_add (r := ((100 + i : Nat) : Int)) rfl rfl (i64_is (by omega) (by omega)) rfl) ?_
      refine w_ (p_build (bd_76) rfl rfl rfl rfl) ?_
      refine w_ (p_lit Tryz.runUnderlying22 Tryz.sizeOf76 Tryz.zeroValue76 rfl rfl rfl rfl rfl rfl rfl rfl rfl rfl) ?_
      refine a_append (ls2 := (npts zs (i + 1)).map ofPt) (m2 := i + 1) 0 Tryz.runUnderlying22 Tryz.runUnderlying22 Tryz.typeInfo76 rfl rfl Tryz.sizeOf76 Tryz.zeroValue76 rfl rfl rfl rfl rfl rfl rfl (by rw [List.length_map, npts_len]; exact Nat.le_refl _) (one_w rfl) (one_f rfl) (by show _ + 1 < _; omega) (by rw [List.take_of_length_le (by rw [List.length_map, npts_len]; exact Nat.le_refl _), npts_snoc, hpt]; rfl) (rfl) fun r2 => ?_
      refine w_ (p_assign rfl rfl) ?_
      refine aw_nil ?_
      refine ac_reg ?_
      refine w_ (p_move rfl rfl) ?_
      refine w_ (p_add (r := ((i + 1 : Nat) : Int)) rfl rfl (i64_is (by omega) (by omega)) rfl) ?_
      refine w_ (p_assign rfl rfl) ?_
      refine aw_pick [1, 5, 7] rfl ?_
      refine aw_nil ?_
      refine ⟨_, ?_, i + 1, r2, by omega, by omega, rfl, rfl, rfl⟩
      omega
     ·have hi : i = N := by omega
      refine ac_pub (L2 := _) 0 [5] rfl (allAre1 rfl) (by rw [List.length_map, npts_len]) (by rw [List.length_map, npts_len]; omega) rfl ?_
      refine ac_slotEq 5 (y := .one (pts (npts zs N))) rfl (by rw [hi]; rfl) ?_
      refine ac_seq (ac_seq (ac_reg ?_))
      refine w_ (p_move rfl rfl) ?_
      refine w_ (p_move rfl rfl) ?_
      refine w_ (p_cmp rfl rfl rfl rfl) ?_
      refine aw_nil ?_
      refine ac_f rfl (decide_eq_false (by omega)) ?_
      refine ac_pick [5] rfl ?_
      refine ac_exit ?_
      repeat refine seqQ_exit ?_
      refine blkQ_here ?_
      exact ⟨rfl, rfl⟩
    ·rintro L B ⟨rfl, rfl⟩
     have hgood : GoodP (npts zs N) := npts_good hN8
     have hlen := npts_len zs N
     by_cases h6 : 6 < N
     ·skip
      refine ac_seq (ac_reg ?_)
      refine w_ (p_build (bd_57) rfl rfl rfl rfl) ?_
      refine w_ (p_move rfl rfl) ?_
      refine w_ (p_call Tryz.func66 rfl rfl rfl rfl (d_delaunay_NewF (l1 := []) (l2 := []) (qs := (npts zs N)) isInt_zero isInt_zero (by decide) (by decide) (qs_0.mono (by omega)) (isPts_n (fun x hx => ⟨(hgood x hx).1, (hgood x hx).2.mono (by omega) (by omega)⟩)) (by rw [npts_len]; omega)) rfl) ?_
      refine w_ (p_move rfl rfl) ?_
      refine w_ (p_extract rfl rfl rfl) ?_
      refine w_ (p_extract rfl rfl rfl) ?_
      refine w_ (p_assign rfl rfl) ?_
      refine w_ (p_assign rfl rfl) ?_
      refine aw_nil ?_
      refine ac_seq (ac_seq (ac_reg ?_))
      refine w_ (p_move rfl rfl) ?_
      refine w_ (p_len (m := ((npts zs N)).length) Tryz.runUnderlying22 rfl (rlen_pts _) rfl) ?_
      refine w_ (p_cmp rfl rfl rfl rfl) ?_
      refine aw_nil ?_
      refine ac_t rfl (decide_eq_true (by omega)) ?_
      refine ac_seq (ac_reg ?_)
      refine w_ (p_move rfl rfl) ?_
      refine w_ (p_cmp (b := true) rfl rfl rfl rfl) ?_
      refine w_ (p_move rfl rfl) ?_
      refine w_ ((p_grun rfl rfl (rfl) (p_move rfl rfl))) ?_
      refine w_ ((p_grun rfl rfl (rfl) (p_eqNil Tryz.runUnderlying133 rfl rfl rfl rfl rfl))) ?_
      refine w_ (p_pickT rfl (rfl) rfl rfl) ?_
      refine w_ (p_move rfl rfl) ?_
      refine w_ ((p_grun rfl rfl (rfl) (p_call Tryz.func58 rfl rfl rfl rfl (d_law22_wakes) rfl))) ?_
      refine w_ (p_pickT rfl (rfl) rfl rfl) ?_
      refine w_ (p_assign rfl rfl) ?_
      refine aw_nil ?_
      refine ac_ret ?_
      exact retB_1 Tryz.results13 (rv_tmp rfl rfl) (rfl)
     ·rcases newL_news (qs := (npts zs N)) (by omega) with ⟨he0, hso, hln, hpw⟩ | ⟨he6, hpw⟩
      ·skip
       refine ac_seq (ac_reg ?_)
       refine w_ (p_build (bd_57) rfl rfl rfl rfl) ?_
       refine w_ (p_move rfl rfl) ?_
       refine a_calls (Bin := []) Tryz.func66 rfl rfl rfl rfl (d_delaunay_New (l1 := []) (l2 := []) (qs := (npts zs N)) isInt_zero isInt_zero (by decide) (by decide) (qs_0.mono (by omega)) (isPts_n (fun x hx => ⟨(hgood x hx).1, (hgood x hx).2.mono (by omega) (by omega)⟩)) hgood (by omega) he0) rfl fun r_ B_ hr_ => ?_
       obtain ⟨g, rfl, rfl⟩ := hr_
       refine w_ (p_move rfl rfl) ?_
       refine w_ (p_extract rfl rfl rfl) ?_
       refine w_ (p_extract rfl rfl rfl) ?_
       refine w_ (p_assign rfl rfl) ?_
       refine w_ (p_assign rfl rfl) ?_
       refine aw_nil ?_
       refine ac_seq (ac_seq (ac_reg ?_))
       refine w_ (p_move rfl rfl) ?_
       refine w_ (p_len (m := ((npts zs N)).length) Tryz.runUnderlying22 rfl (rlen_pts _) rfl) ?_
       refine w_ (p_cmp rfl rfl rfl rfl) ?_
       refine aw_nil ?_
       refine ac_f rfl (decide_eq_false (by omega)) ?_
       refine ac_skip ?_
       refine ac_seq (ac_seq (ac_reg ?_))
       refine w_ (p_move rfl rfl) ?_
       refine w_ (p_len (m := ((npts zs N)).length) Tryz.runUnderlying22 rfl (rlen_pts _) rfl) ?_
       refine w_ (p_move rfl rfl) ?_
       refine aw_nil ?_
       refine ac_block ?_
       refine ac_pick [5, 8, 9, 79, 80] rfl ?_
       refine ac_loop (fun m L B => ∃ i, i ≤ N ∧ (∀ k j, k < j → j < i → (npt zs k).id ≠ (npt zs j).id) ∧ m = N - i ∧ L = [(5, .one (pts ((npts zs N)))), (8, .one (.ow g 0)), (9, .one (.int .i64 0)), (79, .one (.int .i64 (((((npts zs N)).length : Nat) : Int)))), (80, .one (.int .i64 (((i : Nat) : Int))))] ∧ B = [.blk g 210 [.bool true, pl ([-((ratOf 0 0)).num, (((ratOf 0 0)).den : Int)]), sg ((((ratOf 0 0))).num), mg ((((ratOf 0 0))).num), sg (((((ratOf 0 0))).den : Int)), mg (((((ratOf 0 0))).den : Int)), sg ((((ratOf 0 0))).num), mg ((((ratOf 0 0))).num), sg (((((ratOf 0 0))).den : Int)), mg (((((ratOf 0 0))).den : Int)), wts ((sortC (meshC ((ratOf 0 0)) ((newL [] (npts zs N)).1)))), .int .i64 0, pts ((newL [] (npts zs N)).1), tris ((meshT ((ratOf 0 0)) ((newL [] (npts zs N)).1)))]]) (m := _) ⟨0, Nat.zero_le _, fun k j _ hj => absurd hj (Nat.not_lt_zero _), rfl, rfl, rfl⟩ ?_
       rintro m L B ⟨i, hp0, hp1, hm, rfl, rfl⟩
       by_cases h3 : i < N
       ·skip
        refine ac_seq (ac_reg ?_)
        refine w_ (p_cmp rfl rfl rfl rfl) ?_
        refine aw_nil ?_
        refine ac_seq ?_
        refine ac_t rfl (decide_eq_true (by omega)) ?_
        refine ac_skip ?_
        refine ac_seq (ac_block (ac_seq (ac_reg ?_)))
        refine w_ (p_move rfl rfl) ?_
        refine w_ (p_assign rfl rfl) ?_
        refine aw_nil ?_
        refine ac_seq (ac_reg ?_)
        refine w_ (p_assign rfl rfl) ?_
        refine aw_nil ?_
        refine ac_block ?_
        refine ac_pick [5, 8, 9, 79, 80, 10, 11] rfl ?_
        refine ac_loop (fun m L B => ∃ k, k ≤ i ∧ (∀ a, a < k → (npt zs a).id ≠ (npt zs i).id) ∧ m = i - k ∧ L = [(5, .one (pts ((npts zs N)))), (8, .one (.ow g 0)), (9, .one (.int .i64 0)), (79, .one (.int .i64 (((((npts zs N)).length : Nat) : Int)))), (80, .one (.int .i64 (((i : Nat) : Int)))), (10, .one (.int .i64 (((i : Nat) : Int)))), (11, .one (.int .i64 (((k : Nat) : Int))))] ∧ B = [.blk g 210 [.bool true, pl ([-((ratOf 0 0)).num, (((ratOf 0 0)).den : Int)]), sg ((((ratOf 0 0))).num), mg ((((ratOf 0 0))).num), sg (((((ratOf 0 0))).den : Int)), mg (((((ratOf 0 0))).den : Int)), sg ((((ratOf 0 0))).num), mg ((((ratOf 0 0))).num), sg (((((ratOf 0 0))).den : Int)), mg (((((ratOf 0 0))).den : Int)), wts ((sortC (meshC ((ratOf 0 0)) ((newL [] (npts zs N)).1)))), .int .i64 0, pts ((newL [] (npts zs N)).1), tris ((meshT ((ratOf 0 0)) ((newL [] (npts zs N)).1)))]]) (m := _) ⟨0, Nat.zero_le _, fun a ha => absurd ha (Nat.not_lt_zero _), rfl, rfl, rfl⟩ ?_
        rintro m L B ⟨k, hq0, hq1, hm, rfl, rfl⟩
        by_cases h4 : k < i
        ·by_cases hid : (npt zs k).id = (npt zs i).id
         ·exact absurd hid ((npts_pw zs N).1 hpw k i (by omega) (by omega))
         ·skip
          refine ac_seq (ac_seq (ac_reg ?_))
          refine w_ (p_move rfl rfl) ?_
          refine w_ (p_move rfl rfl) ?_
          refine w_ (p_cmp rfl rfl rfl rfl) ?_
          refine aw_nil ?_
          refine ac_t rfl (decide_eq_true (by omega)) ?_
          refine ac_skip ?_
          refine ac_seq (ac_block (ac_seq ?_))
          refine ac_draw mixed_ 10 [88, 89, 90, 91, 92, 93, 94, 95, 96, 97] [[], [], [0, 1], [2], [3], [], [], [5, 6], [7], [8]] [.one (pts ((npts zs N))), .one (.int .i64 (((k : Nat) : Int))), .one (.sh [pl (((npt zs k).c).x), pl (((npt zs k).c).y), sg (((npt zs k).c).d), mg (((npt zs k).c).d), .int .i64 ((npt zs k).id)]), .one (.sh [.int .i64 ((npt zs k).id)]), .one (.int .i64 ((npt zs k).id)), .one (pts ((npts zs N))), .one (.int .i64 (((i : Nat) : Int))), .one (.sh [pl (((npt zs i).c).x), pl (((npt zs i).c).y), sg (((npt zs i).c).d), mg (((npt zs i).c).d), .int .i64 ((npt zs i).id)]), .one (.sh [.int .i64 ((npt zs i).id)]), .one (.int .i64 ((npt zs i).id))] rfl rfl rfl ⟨p_move rfl rfl, p_move rfl rfl, p_index (k) Tryz.runUnderlying22 Tryz.sizeOf76 rfl rfl (rfl) (map_get (npts_get (by omega))) rfl rfl, p_fieldSh fa_76_1 rfl rfl rfl, p_loadSh Tryz.isAgg3 Tryz.sizeOf3 rfl rfl rfl rfl, p_move rfl rfl, p_move rfl rfl, p_index (i) Tryz.runUnderlying22 Tryz.sizeOf76 rfl rfl (rfl) (map_get (npts_get h3)) rfl rfl, p_fieldSh fa_76_1 rfl rfl rfl, p_loadSh Tryz.isAgg3 Tryz.sizeOf3 rfl rfl rfl rfl, trivial⟩ rfl ?_
          refine w_ (p_cmp rfl rfl rfl rfl) ?_
          refine aw_nil ?_
          refine ac_f rfl (decide_eq_false hid) ?_
          refine ac_skip ?_
          refine ac_reg ?_
          refine w_ (p_move rfl rfl) ?_
          refine w_ (p_add (r := ((k + 1 : Nat) : Int)) rfl rfl (i64_is (by omega) (by omega)) rfl) ?_
          refine w_ (p_assign rfl rfl) ?_
          refine aw_pick [5, 8, 9, 79, 80, 10, 11] rfl ?_
          refine aw_nil ?_
          refine ⟨_, ?_, k + 1, by omega, fun a ha => by
           rcases Nat.lt_or_ge a k with hak | hak
           ·exact hq1 a hak
           ·have : a = k := by omega
            subst this; exact hid, rfl, rfl, rfl⟩
          omega
        ·have hki : k = i := by omega
         rw [hki] at hq1
         refine ac_seq (ac_seq (ac_reg ?_))
         refine w_ (p_move rfl rfl) ?_
         refine w_ (p_move rfl rfl) ?_
         refine w_ (p_cmp rfl rfl rfl rfl) ?_
         refine aw_nil ?_
         refine ac_f rfl (decide_eq_false (by omega)) ?_
         refine ac_exit ?_
         repeat refine seqQ_exit ?_
         refine blkQ_here ?_
         refine ac_reg ?_
         refine w_ (p_add (r := ((i + 1 : Nat) : Int)) rfl rfl (i64_is (by omega) (by omega)) rfl) ?_
         refine w_ (p_move rfl rfl) ?_
         refine aw_pick [5, 8, 9, 79, 80] rfl ?_
         refine aw_nil ?_
         refine ⟨_, ?_, i + 1, by omega, fun a b hab hb => by
          rcases Nat.lt_or_ge b i with hbi | hbi
          ·exact hp1 a b hab hbi
          ·have hb2 : b = i := by omega
           subst hb2; exact hq1 a (by omega), rfl, rfl, rfl⟩
         omega
       ·skip
        refine ac_seq (ac_reg ?_)
        refine w_ (p_cmp rfl rfl rfl rfl) ?_
        refine aw_nil ?_
        refine ac_seq ?_
        refine ac_f rfl (decide_eq_false (by omega)) ?_
        refine ac_exit ?_
        repeat refine seqQ_exit ?_
        refine blkQ_here ?_
        refine ac_seq (ac_seq (ac_reg ?_))
        refine w_ (p_move rfl rfl) ?_
        refine w_ (p_cmp (b := false) rfl rfl rfl rfl) ?_
        refine w_ (p_move rfl rfl) ?_
        refine w_ ((p_grun rfl rfl (rfl) (p_move rfl rfl))) ?_
        refine w_ ((p_grun rfl rfl (rfl) (p_eqNil Tryz.runUnderlying133 rfl rfl rfl rfl rfl))) ?_
        refine w_ (p_pickF rfl (rfl) rfl rfl) ?_
        refine aw_nil ?_
        refine ac_f rfl (rfl) ?_
        refine ac_skip ?_
        refine ac_seq (ac_seq (ac_reg ?_))
        refine w_ (p_move rfl rfl) ?_
        refine w_ (p_len (m := ((npts zs N)).length) Tryz.runUnderlying22 rfl (rlen_pts _) rfl) ?_
        refine w_ (p_assign rfl rfl) ?_
        refine aw_nil ?_
        refine ac_block ?_
        refine ac_slotEq 12 (y := .one (.int .i64 ((N : Nat) : Int))) rfl (by rw [npts_len]) ?_
        refine ac_pick [8, 12] rfl ?_
        refine ac_loop (fun m L B => ∃ i l1 ws y1, i ≤ 6 ∧ l1.length = i ∧ SortedP l1 ∧ GoodP l1 ∧ (∀ p ∈ l1, p.id < ((200 + i : Nat) : Int)) ∧ ws.length ≤ 100000 ∧ m = 6 - i ∧ L = [(8, .one (.ow g 0)), (12, .one (.int .i64 (((i : Nat) : Int))))] ∧ B = [.blk g 210 [.bool true, pl ([-((ratOf 0 0)).num, (((ratOf 0 0)).den : Int)]), sg ((((ratOf 0 0))).num), mg ((((ratOf 0 0))).num), sg (((((ratOf 0 0))).den : Int)), mg (((((ratOf 0 0))).den : Int)), sg ((((ratOf 0 0))).num), mg ((((ratOf 0 0))).num), sg (((((ratOf 0 0))).den : Int)), mg (((((ratOf 0 0))).den : Int)), wts ws, .int .i64 0, pts l1, y1]]) (m := _) ⟨N, (newL [] (npts zs N)).1, (sortC (meshC (ratOf 0 0) (newL [] (npts zs N)).1)), _, by omega, by rw [hln, npts_len], hso, fun a ha => hgood a ((newL_mem _ [] ha).resolve_right (by simp)), fun p hp => by have := npts_id hN8 p ((newL_mem _ [] hp).resolve_right (by simp)); omega, by rw [sortC_len]; exact meshC_le (ratOf 0 0) (newL [] (npts zs N)).1 (by omega), rfl, rfl, rfl⟩ ?_
        rintro m L B ⟨i, l1, ws, y1, hs0, hs1, hs2, hs3, hs4, hs5, hm, rfl, rfl⟩
        by_cases h5 : i < 6
        ·skip
         refine ac_seq (ac_seq (ac_reg ?_))
         refine w_ (p_move rfl rfl) ?_
         refine w_ (p_cmp rfl rfl rfl rfl) ?_
         refine aw_nil ?_
         refine ac_t rfl (decide_eq_true (by omega)) ?_
         refine ac_skip ?_
         refine ac_seq (ac_block (ac_seq (ac_reg ?_)))
         refine w_ (p_move rfl rfl) ?_
         refine w_ (p_call Tryz.func45 rfl rfl rfl rfl (d_curve_Still (by decide) (by decide)) rfl) ?_
         refine w_ (p_move rfl rfl) ?_
         refine w_ (p_add (r := ((200 + i : Nat) : Int)) rfl rfl (i64_is (by omega) (by omega)) rfl) ?_
         refine w_ (p_build (bd_76) rfl rfl rfl rfl) ?_
         refine a_calls (Bin := [.blk g 210 [.bool true, pl ([-((ratOf 0 0)).num, (((ratOf 0 0)).den : Int)]), sg ((((ratOf 0 0))).num), mg ((((ratOf 0 0))).num), sg (((((ratOf 0 0))).den : Int)), mg (((((ratOf 0 0))).den : Int)), sg ((((ratOf 0 0))).num), mg ((((ratOf 0 0))).num), sg (((((ratOf 0 0))).den : Int)), mg (((((ratOf 0 0))).den : Int)), wts ws, .int .i64 0, pts l1, y1]]) Tryz.func67 rfl rfl rfl rfl (d_delaunay_Put (isInts_n _) (isInts_n _) (isInt_n _) ((good_still (x := 0) (y := 0) (by decide) (by decide)).2.mono (by omega) (by omega)) (qs_0.mono (by omega)) hs3 (by omega) (by omega) ⟨Crv.nml _, (good_still (x := 0) (y := 0) (by decide) (by decide)).2.norm (by decide)⟩ (put_new hs2 (by omega) hs4)) rfl fun r_ B_ hr_ => ?_
         obtain ⟨rfl, rfl⟩ := hr_
         refine w_ (p_cmp (b := false) rfl rfl rfl rfl) ?_
         refine aw_nil ?_
         refine ac_f rfl (rfl) ?_
         refine ac_skip ?_
         refine ac_reg ?_
         refine w_ (p_move rfl rfl) ?_
         refine w_ (p_add (r := ((i + 1 : Nat) : Int)) rfl rfl (i64_is (by omega) (by omega)) rfl) ?_
         refine w_ (p_assign rfl rfl) ?_
         refine aw_pick [8, 12] rfl ?_
         refine aw_nil ?_
         refine ⟨_, ?_, i + 1, put l1 (Pt.mk (Crv.norm (Crv.mk (still 0 0).x (still 0 0).y (still 0 0).d)) ((200 + i : Nat) : Int)), (sortC (meshC (ratOf 0 0) (put l1 (Pt.mk (Crv.norm (Crv.mk (still 0 0).x (still 0 0).y (still 0 0).d)) ((200 + i : Nat) : Int))))), _, by omega, by rw [put_len]; omega, put_sorted hs2 (has_new hs2 hs4), fun a ha => (put_mem ha).elim (fun e => e ▸ ⟨Crv.nml _, (good_still (x := 0) (y := 0) (by decide) (by decide)).2.norm (by decide)⟩) (hs3 a), fun p hp => (put_mem hp).elim (fun e => by rw [e]; show ((200 + i : Nat) : Int) < _; omega) (fun hp => by have := hs4 p hp; omega), by rw [sortC_len]; exact meshC_le (ratOf 0 0) (put l1 (Pt.mk (Crv.norm (Crv.mk (still 0 0).x (still 0 0).y (still 0 0).d)) ((200 + i : Nat) : Int))) (by rw [put_len]; omega), rfl, rfl, rfl⟩
         omega
        ·skip
         refine ac_seq (ac_seq (ac_reg ?_))
         refine w_ (p_move rfl rfl) ?_
         refine w_ (p_cmp rfl rfl rfl rfl) ?_
         refine aw_nil ?_
         refine ac_f rfl (decide_eq_false (by omega)) ?_
         refine ac_exit ?_
         repeat refine seqQ_exit ?_
         refine blkQ_here ?_
         refine ac_seq (ac_reg ?_)
         refine w_ (p_move rfl rfl) ?_
         refine w_ (p_build (bd_76) rfl rfl rfl rfl) ?_
         refine a_calls (Bin := [.blk g 210 [.bool true, pl ([-((ratOf 0 0)).num, (((ratOf 0 0)).den : Int)]), sg ((((ratOf 0 0))).num), mg ((((ratOf 0 0))).num), sg (((((ratOf 0 0))).den : Int)), mg (((((ratOf 0 0))).den : Int)), sg ((((ratOf 0 0))).num), mg ((((ratOf 0 0))).num), sg (((((ratOf 0 0))).den : Int)), mg (((((ratOf 0 0))).den : Int)), wts ws, .int .i64 0, pts l1, y1]]) Tryz.func67 rfl rfl rfl rfl (by have h9 := put_full (c := Crv.norm (Crv.mk [] [] 0)) (x := 300) hs2 (by omega) (fun p hp => by have := hs4 p hp; omega); have h := d_delaunay_PutE (g := g) (ev := 0) (ws := ws) (q := ratOf 0 0) (y1 := y1) (l := l1) (id := 300) (ll := []) (lx := []) (ly := []) (isInts_n []) (isInts_n []) isInt_zero cs_nil (by omega) (by rw [h9]; decide); rw [h9] at h; exact h) rfl fun r_ B_ hr_ => ?_
         obtain ⟨rfl, rfl⟩ := hr_
         refine w_ (p_cmp (b := true) rfl rfl rfl rfl) ?_
         refine w_ (p_move rfl rfl) ?_
         refine w_ ((p_grun rfl rfl (rfl) (p_move rfl rfl))) ?_
         refine aw_grun rfl rfl (rfl) ?_
         refine a_calls (Bin := [.blk g 210 [.bool true, pl ([-((ratOf 0 0)).num, (((ratOf 0 0)).den : Int)]), sg ((((ratOf 0 0))).num), mg ((((ratOf 0 0))).num), sg (((((ratOf 0 0))).den : Int)), mg (((((ratOf 0 0))).den : Int)), sg ((((ratOf 0 0))).num), mg ((((ratOf 0 0))).num), sg (((((ratOf 0 0))).den : Int)), mg (((((ratOf 0 0))).den : Int)), wts ws, .int .i64 0, pts l1, y1]]) Tryz.func68 rfl rfl rfl rfl (d_delaunay_Points (fun p hp => ⟨(hs3 p hp).1, (hs3 p hp).2.mono (by omega) (by omega)⟩) (by omega)) rfl fun r_ B_ hr_ => ?_
         obtain ⟨rfl, rfl⟩ := hr_
         refine w_ ((p_grun rfl rfl (rfl) (p_len (m := l1.length) Tryz.runUnderlying22 rfl (rlen_pts _) rfl))) ?_
         refine w_ ((p_grun rfl rfl (rfl) (p_cmp rfl rfl rfl rfl))) ?_
         refine w_ (p_pickT rfl (rfl) rfl rfl) ?_
         refine w_ (p_move rfl rfl) ?_
         refine w_ ((p_grun rfl rfl (decide_eq_true (by omega)) (p_call Tryz.func58 rfl rfl rfl rfl (d_law22_wakes) rfl))) ?_
         refine w_ (p_pickT rfl (decide_eq_true (by omega)) rfl rfl) ?_
         refine w_ (p_assign rfl rfl) ?_
         refine aw_nil ?_
         refine ac_ret ?_
         exact retB_1 Tryz.results13 (rv_tmp rfl rfl) (rfl)
      ·skip
       refine ac_seq (ac_reg ?_)
       refine w_ (p_build (bd_57) rfl rfl rfl rfl) ?_
       refine w_ (p_move rfl rfl) ?_
       refine w_ (p_call Tryz.func66 rfl rfl rfl rfl (by have h := d_delaunay_NewE (l1 := []) (l2 := []) (qs := (npts zs N)) isInt_zero isInt_zero (by decide) (by decide) (qs_0.mono (by omega)) (isPts_n (fun x hx => ⟨(hgood x hx).1, (hgood x hx).2.mono (by omega) (by omega)⟩)) (by rw [npts_len]; omega) (by omega); rw [he6] at h; exact h) rfl) ?_
       refine w_ (p_move rfl rfl) ?_
       refine w_ (p_extract rfl rfl rfl) ?_
       refine w_ (p_extract rfl rfl rfl) ?_
       refine w_ (p_assign rfl rfl) ?_
       refine w_ (p_assign rfl rfl) ?_
       refine aw_nil ?_
       refine ac_seq (ac_seq (ac_reg ?_))
       refine w_ (p_move rfl rfl) ?_
       refine w_ (p_len (m := ((npts zs N)).length) Tryz.runUnderlying22 rfl (rlen_pts _) rfl) ?_
       refine w_ (p_cmp rfl rfl rfl rfl) ?_
       refine aw_nil ?_
       refine ac_f rfl (decide_eq_false (by omega)) ?_
       refine ac_skip ?_
       refine ac_seq (ac_seq (ac_reg ?_))
       refine w_ (p_move rfl rfl) ?_
       refine w_ (p_len (m := ((npts zs N)).length) Tryz.runUnderlying22 rfl (rlen_pts _) rfl) ?_
       refine w_ (p_move rfl rfl) ?_
       refine aw_nil ?_
       refine ac_block ?_
       refine ac_pick [5, 8, 9, 79, 80] rfl ?_
       refine ac_loop (fun m L B => ∃ i, i ≤ N ∧ (∀ k j, k < j → j < i → (npt zs k).id ≠ (npt zs j).id) ∧ m = N - i ∧ L = [(5, .one (pts ((npts zs N)))), (8, .one (.nilp)), (9, .one (.int .i64 6)), (79, .one (.int .i64 (((((npts zs N)).length : Nat) : Int)))), (80, .one (.int .i64 (((i : Nat) : Int))))] ∧ B = []) (m := _) ⟨0, Nat.zero_le _, fun k j _ hj => absurd hj (Nat.not_lt_zero _), rfl, rfl, rfl⟩ ?_
       rintro m L B ⟨i, hp0, hp1, hm, rfl, rfl⟩
       by_cases h3 : i < N
       ·skip
        refine ac_seq (ac_reg ?_)
        refine w_ (p_cmp rfl rfl rfl rfl) ?_
        refine aw_nil ?_
        refine ac_seq ?_
        refine ac_t rfl (decide_eq_true (by omega)) ?_
        refine ac_skip ?_
        refine ac_seq (ac_block (ac_seq (ac_reg ?_)))
        refine w_ (p_move rfl rfl) ?_
        refine w_ (p_assign rfl rfl) ?_
        refine aw_nil ?_
        refine ac_seq (ac_reg ?_)
        refine w_ (p_assign rfl rfl) ?_
        refine aw_nil ?_
        refine ac_block ?_
        refine ac_pick [5, 8, 9, 79, 80, 10, 11] rfl ?_
        refine ac_loop (fun m L B => ∃ k, k ≤ i ∧ (∀ a, a < k → (npt zs a).id ≠ (npt zs i).id) ∧ m = i - k ∧ L = [(5, .one (pts ((npts zs N)))), (8, .one (.nilp)), (9, .one (.int .i64 6)), (79, .one (.int .i64 (((((npts zs N)).length : Nat) : Int)))), (80, .one (.int .i64 (((i : Nat) : Int)))), (10, .one (.int .i64 (((i : Nat) : Int)))), (11, .one (.int .i64 (((k : Nat) : Int))))] ∧ B = []) (m := _) ⟨0, Nat.zero_le _, fun a ha => absurd ha (Nat.not_lt_zero _), rfl, rfl, rfl⟩ ?_
        rintro m L B ⟨k, hq0, hq1, hm, rfl, rfl⟩
        by_cases h4 : k < i
        ·by_cases hid : (npt zs k).id = (npt zs i).id
         ·skip
          refine ac_seq (ac_seq (ac_reg ?_))
          refine w_ (p_move rfl rfl) ?_
          refine w_ (p_move rfl rfl) ?_
          refine w_ (p_cmp rfl rfl rfl rfl) ?_
          refine aw_nil ?_
          refine ac_t rfl (decide_eq_true (by omega)) ?_
          refine ac_skip ?_
          refine ac_seq (ac_block (ac_seq ?_))
          refine ac_draw mixed_ 10 [88, 89, 90, 91, 92, 93, 94, 95, 96, 97] [[], [], [0, 1], [2], [3], [], [], [5, 6], [7], [8]] [.one (pts ((npts zs N))), .one (.int .i64 (((k : Nat) : Int))), .one (.sh [pl (((npt zs k).c).x), pl (((npt zs k).c).y), sg (((npt zs k).c).d), mg (((npt zs k).c).d), .int .i64 ((npt zs k).id)]), .one (.sh [.int .i64 ((npt zs k).id)]), .one (.int .i64 ((npt zs k).id)), .one (pts ((npts zs N))), .one (.int .i64 (((i : Nat) : Int))), .one (.sh [pl (((npt zs i).c).x), pl (((npt zs i).c).y), sg (((npt zs i).c).d), mg (((npt zs i).c).d), .int .i64 ((npt zs i).id)]), .one (.sh [.int .i64 ((npt zs i).id)]), .one (.int .i64 ((npt zs i).id))] rfl rfl rfl ⟨p_move rfl rfl, p_move rfl rfl, p_index (k) Tryz.runUnderlying22 Tryz.sizeOf76 rfl rfl (rfl) (map_get (npts_get (by omega))) rfl rfl, p_fieldSh fa_76_1 rfl rfl rfl, p_loadSh Tryz.isAgg3 Tryz.sizeOf3 rfl rfl rfl rfl, p_move rfl rfl, p_move rfl rfl, p_index (i) Tryz.runUnderlying22 Tryz.sizeOf76 rfl rfl (rfl) (map_get (npts_get h3)) rfl rfl, p_fieldSh fa_76_1 rfl rfl rfl, p_loadSh Tryz.isAgg3 Tryz.sizeOf3 rfl rfl rfl rfl, trivial⟩ rfl ?_
          refine w_ (p_cmp rfl rfl rfl rfl) ?_
          refine aw_nil ?_
          refine ac_t rfl (decide_eq_true hid) ?_
          refine ac_seq (ac_reg ?_)
          refine w_ (p_move rfl rfl) ?_
          refine w_ (p_cmp (b := true) rfl rfl rfl rfl) ?_
          refine w_ (p_move rfl rfl) ?_
          refine w_ ((p_grun rfl rfl (rfl) (p_move rfl rfl))) ?_
          refine w_ ((p_grun rfl rfl (rfl) (p_eqNil Tryz.runUnderlying133 rfl rfl rfl rfl rfl))) ?_
          refine w_ (p_pickT rfl (rfl) rfl rfl) ?_
          refine w_ (p_move rfl rfl) ?_
          refine w_ ((p_grun rfl rfl (rfl) (p_call Tryz.func58 rfl rfl rfl rfl (d_law22_wakes) rfl))) ?_
          refine w_ (p_pickT rfl (rfl) rfl rfl) ?_
          refine w_ (p_assign rfl rfl) ?_
          refine aw_nil ?_
          refine ac_ret ?_
          exact retB_1 Tryz.results13 (rv_tmp rfl rfl) (rfl)
         ·skip
          refine ac_seq (ac_seq (ac_reg ?_))
          refine w_ (p_move rfl rfl) ?_
          refine w_ (p_move rfl rfl) ?_
          refine w_ (p_cmp rfl rfl rfl rfl) ?_
          refine aw_nil ?_
          refine ac_t rfl (decide_eq_true (by omega)) ?_
          refine ac_skip ?_
          refine ac_seq (ac_block (ac_seq ?_))
          refine ac_draw mixed_ 10 [88, 89, 90, 91, 92, 93, 94, 95, 96, 97] [[], [], [0, 1], [2], [3], [], [], [5, 6], [7], [8]] [.one (pts ((npts zs N))), .one (.int .i64 (((k : Nat) : Int))), .one (.sh [pl (((npt zs k).c).x), pl (((npt zs k).c).y), sg (((npt zs k).c).d), mg (((npt zs k).c).d), .int .i64 ((npt zs k).id)]), .one (.sh [.int .i64 ((npt zs k).id)]), .one (.int .i64 ((npt zs k).id)), .one (pts ((npts zs N))), .one (.int .i64 (((i : Nat) : Int))), .one (.sh [pl (((npt zs i).c).x), pl (((npt zs i).c).y), sg (((npt zs i).c).d), mg (((npt zs i).c).d), .int .i64 ((npt zs i).id)]), .one (.sh [.int .i64 ((npt zs i).id)]), .one (.int .i64 ((npt zs i).id))] rfl rfl rfl ⟨p_move rfl rfl, p_move rfl rfl, p_index (k) Tryz.runUnderlying22 Tryz.sizeOf76 rfl rfl (rfl) (map_get (npts_get (by omega))) rfl rfl, p_fieldSh fa_76_1 rfl rfl rfl, p_loadSh Tryz.isAgg3 Tryz.sizeOf3 rfl rfl rfl rfl, p_move rfl rfl, p_move rfl rfl, p_index (i) Tryz.runUnderlying22 Tryz.sizeOf76 rfl rfl (rfl) (map_get (npts_get h3)) rfl rfl, p_fieldSh fa_76_1 rfl rfl rfl, p_loadSh Tryz.isAgg3 Tryz.sizeOf3 rfl rfl rfl rfl, trivial⟩ rfl ?_
          refine w_ (p_cmp rfl rfl rfl rfl) ?_
          refine aw_nil ?_
          refine ac_f rfl (decide_eq_false hid) ?_
          refine ac_skip ?_
          refine ac_reg ?_
          refine w_ (p_move rfl rfl) ?_
          refine w_ (p_add (r := ((k + 1 : Nat) : Int)) rfl rfl (i64_is (by omega) (by omega)) rfl) ?_
          refine w_ (p_assign rfl rfl) ?_
          refine aw_pick [5, 8, 9, 79, 80, 10, 11] rfl ?_
          refine aw_nil ?_
          refine ⟨_, ?_, k + 1, by omega, fun a ha => by
           rcases Nat.lt_or_ge a k with hak | hak
           ·exact hq1 a hak
           ·have : a = k := by omega
            subst this; exact hid, rfl, rfl, rfl⟩
          omega
        ·have hki : k = i := by omega
         rw [hki] at hq1
         refine ac_seq (ac_seq (ac_reg ?_))
         refine w_ (p_move rfl rfl) ?_
         refine w_ (p_move rfl rfl) ?_
         refine w_ (p_cmp rfl rfl rfl rfl) ?_
         refine aw_nil ?_
         refine ac_f rfl (decide_eq_false (by omega)) ?_
         refine ac_exit ?_
         repeat refine seqQ_exit ?_
         refine blkQ_here ?_
         refine ac_reg ?_
         refine w_ (p_add (r := ((i + 1 : Nat) : Int)) rfl rfl (i64_is (by omega) (by omega)) rfl) ?_
         refine w_ (p_move rfl rfl) ?_
         refine aw_pick [5, 8, 9, 79, 80] rfl ?_
         refine aw_nil ?_
         refine ⟨_, ?_, i + 1, by omega, fun a b hab hb => by
          rcases Nat.lt_or_ge b i with hbi | hbi
          ·exact hp1 a b hab hbi
          ·have hb2 : b = i := by omega
           subst hb2; exact hq1 a (by omega), rfl, rfl, rfl⟩
         omega
       ·exact absurd ((npts_pw zs N).2 (by rw [show N = i by omega]; exact hp1)) hpw
end Orr

namespace Orr
open Go Go.Proofs
variable {H : Type} {enc : TypeId × Value → H} {w : World} {base : Nat} {spare : Nat → Bool} {held : Bool}
theorem slice_one {P : Program} {t e fuel : Nat} {cs : List Value} {x : DataW H × List MemPlace} (ht : P.underlying t = some (.slice e)) (h : DataW.trod enc P w base spare held fuel t cs = some x) : ∃ v, cs = [v] ∧ one v = true := by
  rcases DataW.trod_slice ht h with ⟨rfl, _⟩ | ⟨a, len, cap, _, _, _, _, rfl, _⟩
  · exact ⟨_, rfl, rfl⟩
  · exact ⟨_, rfl, rfl⟩
theorem get_some {α : Type} {l : List α} {n i : Nat} (h : l.length = n) (hi : i < n) : ∃ x, l[i]? = some x := ⟨l[i]'(by omega), List.getElem?_eq_getElem (by omega)⟩
set_option maxRecDepth 20000 in
theorem pt_read {fuel : Nat} {cs : List Value} {x : DataW H × List MemPlace} (h : DataW.trod enc Tryz.prog w base spare held fuel 76 cs = some x) :
    ∃ v0 v1 v2 v3 id, cs = [v0, v1, v2, v3, .int .i64 id] ∧ one v0 = true ∧ one v1 = true ∧ one v2 = true ∧ one v3 = true ∧ (Lit.int .i64 id).wf = true := by
  obtain ⟨xs, n, _, _, hl, hxs, hf⟩ := DataW.trod_struct Tryz.underlying76 h
  have hl : cs.length = 5 := hl
  match cs, hl with
  | [v0, v1, v2, v3, v4], _ =>
    obtain ⟨z, hz⟩ := get_some (i := 1) hxs (by decide)
    have h1 := hf 1 _ rfl
    rw [hz] at h1
    obtain ⟨id, e1, _, hw⟩ := DataW.trod_int Tryz.underlying3 h1
    have e1 : [v4] = [Value.int .i64 id] := e1
    injection e1 with e1
    subst e1
    obtain ⟨z, hz⟩ := get_some (i := 0) hxs (by decide)
    have h0 := hf 0 _ rfl
    rw [hz] at h0
    obtain ⟨ys, n2, _, _, _, hys, hg⟩ := DataW.trod_struct Tryz.underlying74 h0
    obtain ⟨z0, hz0⟩ := get_some (i := 0) hys (by decide)
    obtain ⟨z1, hz1⟩ := get_some (i := 1) hys (by decide)
    obtain ⟨z2, hz2⟩ := get_some (i := 2) hys (by decide)
    have g0 := hg 0 _ rfl
    have g1 := hg 1 _ rfl
    have g2 := hg 2 _ rfl
    rw [hz0] at g0; rw [hz1] at g1; rw [hz2] at g2
    obtain ⟨u0, e0, o0⟩ := slice_one Tryz.underlying52 g0
    obtain ⟨u1, e1, o1⟩ := slice_one Tryz.underlying52 g1
    obtain ⟨qs, n3, _, _, _, hqs, hk⟩ := DataW.trod_struct Tryz.underlying55 g2
    obtain ⟨z3, hz3⟩ := get_some (i := 0) hqs (by decide)
    obtain ⟨z4, hz4⟩ := get_some (i := 1) hqs (by decide)
    have k0 := hk 0 _ rfl
    have k1 := hk 1 _ rfl
    rw [hz3] at k0; rw [hz4] at k1
    obtain ⟨b, e2, _⟩ := DataW.trod_bool Tryz.underlying4 k0
    obtain ⟨u3, e3, o3⟩ := slice_one Tryz.underlying53 k1
    have a0 : v0 = u0 := (List.cons.inj (show [v0] = [u0] from e0)).1
    have a1 : v1 = u1 := (List.cons.inj (show [v1] = [u1] from e1)).1
    have a2 : v2 = .bool b := (List.cons.inj (show [v2] = [Value.bool b] from e2)).1
    have a3 : v3 = u3 := (List.cons.inj (show [v3] = [u3] from e3)).1
    subst a0 a1 a2 a3
    exact ⟨_, _, _, _, id, rfl, o0, o1, rfl, o3, hw⟩
end Orr

namespace Orr
open Go Go.Proofs Go.ChangeShapes Go.WideShapes Go.ChangeAt Go.RowKit Go.WideElems
theorem cell_at {w : World} {a : Addr} {v : Value} (h : w.cell? a = some v) : a.spot = none ∧ a.block < w.heap.size := by
  simp only [World.cell?] at h
  split at h
  · rename_i c t fr hc
    split at h
    · cases h
    · rename_i hs
      refine ⟨by cases e : a.spot with | none => rfl | some _ => simp [e] at hs, ?_⟩
      exact (Array.getElem?_eq_some_iff.1 hc).1
  · cases h
theorem add_add {a : Addr} (h : a.spot = none) (n m : Nat) : (a.add n).add m = ⟨a.block, a.off + n + m, none⟩ := by
  obtain ⟨b, o, s⟩ := a
  simp only at h
  subst h
  simp only [Addr.add]
  split
  · rename_i h; subst h
    split
    · rename_i h; subst h; simp
    · simp
  · split
    · rename_i h; subst h; simp
    · simp
theorem same_of {w w' : World} {Bo : List Blk} (h : Moved w w' [] Bo) {p : MemPlace} (hp : p.block < w.heap.size) : w.sameAt w' p := by
  cases p with
  | cell b off => simp only [World.sameAt, World.cell?]; rw [h.keep b hp (by simp)]
  | map b => exact h.keep b hp (by simp)
theorem kept_of {w w' : World} {Bo : List Blk} (h : Moved w w' [] Bo) (may : MemPlace → Prop) : w.keptBut w' may := by
  refine ⟨h.io.1, h.io.2, fun i hi => ?_⟩
  rw [h.keep i hi (by simp)]
  cases w.heap[i]? with
  | none => rfl
  | some o => cases o <;> simp
set_option maxRecDepth 20000 in
theorem pts_read {H : Type} {enc : TypeId × Value → H} {w : World} {v : Value} {d : DataW H} {ps : List MemPlace} {ts : List TypeId} {ds : List (DataW H)} {base : Nat}
    (hval : Value.okWide Tryz.prog w .any base 22 v) (h : DataW.Trod enc Tryz.prog w 0 (fun _ => true) true 22 v d ps)
    (hz : (DataW.weightsEach Tryz.prog ts ds).all (· ≤ reachBytes) = true) (ht : ts[0]? = some 22) (hd : ds[0]? = some d) :
    ∃ zs, Named zs ∧ LRep w (owns (fun _ => False) []) v (.row zs) := by
  obtain ⟨a, len, cap, rfl⟩ := okWide_slice Tryz.underlying22 hval
  obtain ⟨fu, h⟩ := h
  rcases Go.Deep.open_slice Tryz.underlying22 h with ⟨e, _⟩ | ⟨a', len', cap', m, n, D, Pl, e, _, hlc, hcap, hm, hx, hr⟩
  · simp only [Value.cells] at e
    have e : Value.slice a len cap = .slice none 0 0 := by simpa using e
    injection e with e1 e2 e3
    subst e1 e2 e3
    refine ⟨[], fun z hz => by simp at hz, ?_⟩
    exact LRep.row none 0 0 0 0 [] (fun _ _ => .bool true) (Nat.le_refl _) (by decide) (by decide) (by simp) (by simp) (by simp) (by simp)
  · simp only [Value.cells] at e
    have e : Value.slice a len cap = .slice (some a') len' cap' := by simpa using e
    injection e with e1 e2 e3
    subst e1 e2 e3
    simp only [if_true] at hm
    subst hm
    have hd' : d = _ := congrArg Prod.fst hx
    subst hd'
    have hw := sized_slice hz ht hd Tryz.underlying22
    have hc5 : Tryz.prog.cellsOf 76 = 5 := by kernel_rfl
    have hb : 1 ≤ Tryz.prog.bytesOf 76 := of_decide_eq_true (by kernel_rfl)
    have hlen : len < 2 ^ 47 := by
      have h1 : len ≤ (len + (m - len)) * Tryz.prog.bytesOf 76 := by
        have := Nat.mul_le_mul (Nat.le_add_right len (m - len)) hb
        omega
      have h2 : (len + (m - len)) * Tryz.prog.bytesOf 76 ≤ reachBytes := by simpa using hw
      exact Nat.lt_of_le_of_lt (Nat.le_trans h1 h2) reachBytes_lt
    have hone : ∀ i, ∃ (g : Nat → Value) (id : Int), i < len → a'.spot = none ∧ a'.block < w.heap.size ∧
        (∀ j, j < 5 → w.cell? ⟨a'.block, a'.off + i * 5 + j, none⟩ = some (g j)) ∧ (∀ j, j < 4 → one (g j) = true) ∧ g 4 = .int .i64 id ∧ (Lit.int .i64 id).wf = true := by
      intro i
      by_cases hi : i < len
      · obtain ⟨cs, hcs, htr⟩ := hr i (by omega)
        rw [hc5] at hcs
        obtain ⟨_, hl, hcell⟩ := World.cells?_some hcs
        obtain ⟨v0, v1, v2, v3, id, rfl, o0, o1, o2, o3, hwf⟩ := pt_read htr
        have c0 := hcell 0 (by decide)
        have c1 := hcell 1 (by decide)
        have c2 := hcell 2 (by decide)
        have c3 := hcell 3 (by decide)
        have c4 := hcell 4 (by decide)
        have hsp : a'.spot = none := by
          by_cases h0 : i = 0
          · subst h0
            have : (a'.add (0 * 5)).add 0 = a' := by simp [Addr.add]
            rw [this] at c0
            exact (cell_at c0).1
          · obtain ⟨cs0, hcs0, htr0⟩ := hr 0 (by omega)
            rw [hc5] at hcs0
            obtain ⟨_, _, hcell0⟩ := World.cells?_some hcs0
            obtain ⟨u0, u1, u2, u3, _, rfl, _⟩ := pt_read htr0
            have c0 := hcell0 0 (by decide)
            have : (a'.add (0 * 5)).add 0 = a' := by simp [Addr.add]
            rw [this] at c0
            exact (cell_at c0).1
        rw [add_add hsp] at c0 c1 c2 c3 c4
        have hbl := (cell_at c0).2
        refine ⟨fun j => [v0, v1, v2, v3, .int .i64 id].getD j (.bool true), id, fun _ => ⟨hsp, hbl, ?_, ?_, rfl, hwf⟩⟩
        · intro j hj
          match j, hj with
          | 0, _ => simpa using c0
          | 1, _ => simpa using c1
          | 2, _ => simpa using c2
          | 3, _ => simpa using c3
          | 4, _ => simpa using c4
        · intro j hj
          match j, hj with
          | 0, _ => simpa using o0
          | 1, _ => simpa using o1
          | 2, _ => simpa using o2
          | 3, _ => simpa using o3
      · exact ⟨fun _ => .bool true, 0, fun h => absurd h hi⟩
    let G : Nat → Nat → Value := fun i => Classical.choose (hone i)
    have hG : ∀ i, ∃ id : Int, i < len → a'.spot = none ∧ a'.block < w.heap.size ∧
        (∀ j, j < 5 → w.cell? ⟨a'.block, a'.off + i * 5 + j, none⟩ = some (G i j)) ∧ (∀ j, j < 4 → one (G i j) = true) ∧ G i 4 = .int .i64 id ∧ (Lit.int .i64 id).wf = true := fun i => Classical.choose_spec (hone i)
    let I : Nat → Int := fun i => Classical.choose (hG i)
    have hI : ∀ i, i < len → a'.spot = none ∧ a'.block < w.heap.size ∧
        (∀ j, j < 5 → w.cell? ⟨a'.block, a'.off + i * 5 + j, none⟩ = some (G i j)) ∧ (∀ j, j < 4 → one (G i j) = true) ∧ G i 4 = .int .i64 (I i) ∧ (Lit.int .i64 (I i)).wf = true := fun i => Classical.choose_spec (hG i)
    let zs : List (List LV) := (List.range len).map fun i => [.any, .any, .any, .any, .int .i64 (I i)]
    have hzl : zs.length = len := by simp [zs]
    have hzg : ∀ i cs, zs[i]? = some cs → i < len ∧ cs = [.any, .any, .any, .any, .int .i64 (I i)] := by
      intro i cs h
      simp only [zs, List.getElem?_map] at h
      by_cases hi : i < len
      · rw [List.getElem?_range hi] at h
        simp at h
        exact ⟨hi, h.symm⟩
      · rw [List.getElem?_eq_none (by simp; omega)] at h
        cases h
    refine ⟨zs, ?_, ?_⟩
    · intro z hz
      obtain ⟨i, hi⟩ := List.mem_iff_getElem?.1 hz
      obtain ⟨hl, rfl⟩ := hzg i z hi
      have hwf := (hI i hl).2.2.2.2.2
      refine ⟨_, _, _, _, _, rfl, ?_⟩
      simpa [Lit.wf, IntKind.min, IntKind.max, IntKind.signed, IntKind.bits] using hwf
    · have key : LRep w (owns (fun _ => False) []) (.slice (some a') zs.length m) (.row zs) := by
        refine LRep.row (some a') m 5 a'.block a'.off zs G (by omega) ?_ (by omega) ?_ ?_ ?_ ?_
        · have : maxLen = 2 ^ 63 - 1 := by rfl
          omega
        · intro cs hcs
          obtain ⟨i, hi⟩ := List.mem_iff_getElem?.1 hcs
          obtain ⟨_, rfl⟩ := hzg i cs hi
          rfl
        · intro h0
          obtain ⟨hs, hb, _⟩ := hI 0 (by omega)
          refine ⟨?_, hb, by simp [owns]⟩
          obtain ⟨b, o, s⟩ := a'
          simp only at hs
          rw [hs]
        · intro i cs hi j hj
          obtain ⟨hl, rfl⟩ := hzg i cs hi
          exact (hI i hl).2.2.1 j hj
        · intro i cs hi j x hx
          obtain ⟨hl, rfl⟩ := hzg i cs hi
          obtain ⟨_, _, _, h4, h5, _⟩ := hI i hl
          match j, hx with
          | 0, hx => simp at hx; subst hx; exact .any _ (h4 0 (by decide))
          | 1, hx => simp at hx; subst hx; exact .any _ (h4 1 (by decide))
          | 2, hx => simp at hx; subst hx; exact .any _ (h4 2 (by decide))
          | 3, hx => simp at hx; subst hx; exact .any _ (h4 3 (by decide))
          | 4, hx => simp at hx; subst hx; rw [h5]; exact .int _ _
          | j + 5, hx => simp at hx
      rwa [hzl] at key
set_option maxRecDepth 20000 in
theorem law_points {f : FuncId} {fn : Func} {s : ChangeSpec} (hp : fn.params = #[22, 3]) (hr : fn.resultTypes = #[4]) (hv : s.vars = [])
    (hs : ∀ (H : Type) (d1 d2 : DataW H), s.fn H [d1, d2] = { results := [.lit (.bool true)], args := [d1, d2] })
    (hlaid : laidOutB Tryz.prog = true) (hr22 : Tryz.prog.readableRec 22 = true) (hr3 : Tryz.prog.readableRec 3 = true) (hs22 : 22 < Tryz.prog.types.size) (hs3 : 3 < Tryz.prog.types.size)
    (law : ∀ (zs : List (List LV)) (n : Int), Named zs → (-2^63 ≤ n ∧ n ≤ 2^63-1) → Does Tryz.prog f [.one (.row zs), .one (.int .i64 n)] (.one (.bool true)))
    {H : Type} {enc : TypeId × Value → H} {W : World} {base : Nat} {args : Array Value} {ds gs : List (DataW H)} {before : List MemPlace} {fresh handsOn : Bool}
    (hval : ∀ (j : Nat) t v, fn.params[j]? = some t → args[j]? = some v → Value.okWide Tryz.prog W .any base t v)
    (hW : DataW.Whole enc Tryz.prog fn.params.toList s.vars false W args.toList ds gs before)
    (hz : (DataW.weightsEach Tryz.prog (fn.params.toList ++ s.plain.varTypes Tryz.prog) (ds ++ gs)).all (· ≤ reachBytes) = true) :
    Calls Tryz.prog f args W fun e W' => ∃ v, e = .returned v ∧ s.post enc Tryz.prog fn false fresh handsOn false W args v W' := by
  have hW' := hW
  obtain ⟨p, q, hA0, hV, rfl, hfz, hnd⟩ := hW
  have hA : DataW.TrodAll enc Tryz.prog W 0 (fun _ => true) true fn.params.toList args.toList ds p := hA0
  rw [hv] at hV
  obtain ⟨rfl, rfl⟩ := trodVars_none hV
  have hlt := hW'.lt
  rw [hp] at hA hval hz
  obtain ⟨v0, vs0, d0, ds0, p0, q0, hargs0, rfl, rfl, h0, r0⟩ := trodAll_cons hA
  obtain ⟨v1, vs1, d1, ds1, p1, q1, rfl, rfl, rfl, h1, r1⟩ := trodAll_cons r0
  obtain ⟨rfl, rfl, rfl⟩ := trodAll_nil r1
  obtain rfl : args = #[v0, v1] := by cases args; simp_all
  obtain ⟨n, rfl, rfl, rfl, w1⟩ := open_int Tryz.underlying3 (hval 1 3 v1 rfl rfl) h1
  obtain ⟨zs, hn, hrep⟩ := pts_read (hval 0 22 v0 rfl rfl) h0 hz rfl rfl
  have hn1 : -2^63 ≤ n ∧ n ≤ 2^63-1 := by simpa [Lit.wf, IntKind.min, IntKind.max, IntKind.signed, IntKind.bits] using w1
  have hcall := law zs n hn hn1 (fun _ => False) W [v0, .int .i64 n] [] (fun _ h => h.elim) ⟨by simp, by simp⟩ ⟨hrep.x, (LRep.int .i64 n).x, trivial⟩ rfl
  refine hcall.mono fun e W' ⟨v, r, Bout, Bo, he, hpost, har, hbs, hm, hh⟩ => ?_
  obtain ⟨rfl, rfl⟩ := hpost
  obtain rfl : v = .bool true := by
    have h : LRep _ _ v (.bool true) := har
    cases h
    rfl
  refine ⟨_, he, ?_⟩
  refine ⟨[d0, .lit (.int .i64 n)], [], _, [], p0 ++ ([] ++ []), [], hW', ?_, ?_, ?_, kept_of hm _, fun h => by cases h⟩
  · rw [hr, List.append_nil, hs]
    exact trodAll_cons_mk (shut_bool Tryz.underlying4 true) trodAll_mk0
  · rw [hp, List.append_nil, hs]
    have hb : ∀ p ∈ p0, p.block < W.heap.size := fun p hp => hlt p (by simp [hp])
    exact trodAll_cons_mk (Trod_stays hlaid hr22 hs22 h0 (fun p hp => same_of hm (hb p hp)) (fun p hp => by simpa using hb p hp)) (trodAll_cons_mk (shut_int Tryz.underlying3 w1) trodAll_mk0)
  · rw [hv, List.append_nil, hs]
    rfl
end Orr
