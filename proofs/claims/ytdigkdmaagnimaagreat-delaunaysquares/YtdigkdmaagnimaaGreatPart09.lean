/- AMesh -/
import Derived.Test.YtdigkdmaagnimaaGreatPart08
import Derived.Test.YtdigkdmaagnimaaGreatPart07
import Derived.Laws.StructEq
set_option linter.all false

namespace Orr
open Go Go.Proofs
theorem eqT_3' (d : Nat) (x y : Int) (w : World) : (Op.equalIn (d + 1) 3 (.int .i64 x) (.int .i64 y)).run Tryz.prog w = .ok (decide (x = y)) w := by
 simp [Op.equalIn, Tryz.runUnderlying3]
 rfl
set_option maxRecDepth 20000 in
theorem eqT_78 (d : Nat) (x0 x1 x2 y0 y1 y2 : Int) (w : World) : (Op.equalIn (d + 1 + 1) 78 (.agg #[.int .i64 x0, .int .i64 x1, .int .i64 x2]) (.agg #[.int .i64 y0, .int .i64 y1, .int .i64 y2])).run Tryz.prog w = .ok (decide ([x0, x1, x2] = [y0, y1, y2])) w := by
 rw [run_equalIn_array w (d + 1) _ _ (n := 3) (e := 3) rfl rfl]
 rw [show List.range 3 = [0, 1, 2] from rfl, show Tryz.prog.cellsOf 3 = 1 from rfl]
 simp [Op.eqItems, Go.part, Tryz.isAgg3, eqT_3']
 by_cases h0 : x0 = y0 <;> by_cases h1 : x1 = y1 <;> by_cases h2 : x2 = y2 <;> simp [h0, h1, h2]
set_option maxRecDepth 20000 in
theorem eqT_23' (d : Nat) (x0 x1 y0 y1 : Int) (w : World) : (Op.equalIn (d + 1 + 1) 23 (.agg #[.int .i64 x0, .int .i64 x1]) (.agg #[.int .i64 y0, .int .i64 y1])).run Tryz.prog w = .ok (decide ([x0, x1] = [y0, y1])) w := by
 rw [run_equalIn_array w (d + 1) _ _ (n := 2) (e := 3) rfl rfl]
 rw [show List.range 2 = [0, 1] from rfl, show Tryz.prog.cellsOf 3 = 1 from rfl]
 simp [Op.eqItems, Go.part, Tryz.isAgg3, eqT_3']
 by_cases h0 : x0 = y0 <;> by_cases h1 : x1 = y1 <;> simp [h0, h1]
theorem eqT_23 (a b : List Int) (ha : a.length = 2) (hb : b.length = 2) (w : World) : (Op.equal 23 (.agg (a.map (Value.int .i64)).toArray) (.agg (b.map (Value.int .i64)).toArray)).run Tryz.prog w = .ok (decide (a = b)) w := by
 match a, ha, b, hb with
 | [x0, x1], _, [y0, y1], _ => exact eqT_23' 9998 x0 x1 y0 y1 w
theorem key_eq (x y : List Int) (hx : x.length = 3) (hy : y.length = 3) (w : World) : (Op.equal 78 (keyV x) (keyV y)).run Tryz.prog w = .ok (decide (x = y)) w := by
 match x, hx, y, hy with
 | [x0, x1, x2], _, [y0, y1, y2], _ => exact eqT_78 9998 x0 x1 x2 y0 y1 y2 w
theorem check_int (em : Bool) (n : Nat) (v : Int) (w : World) : (Instr.checkKey em (n + 1) 3 (.int .i64 v)).run Tryz.prog w = .ok () w := by
 rw [Instr.checkKey]
 simp [Tryz.runUnderlying3]
theorem check_key (em : Bool) (n : Nat) (a b c : Int) (w : World) : (Instr.checkKey em (n + 1 + 1) 78 (.agg #[.int .i64 a, .int .i64 b, .int .i64 c])).run Tryz.prog w = .ok () w := by
 rw [Instr.checkKey]
 simp [Tryz.runUnderlying78]
 rw [show List.range' 0 3 = [0, 1, 2] from rfl]
 simp [Go.part, Tryz.isAgg3, Tryz.sizeOf3, check_int]
theorem key_check (em : Bool) (ks : List Int) (hk : ks.length = 3) (w : World) : (Instr.checkKey em 10000 78 (keyV ks)).run Tryz.prog w = .ok () w := by
 match ks, hk with
 | [a, b, c], _ => exact check_key em 9998 a b c w
theorem mapT_89 : MapT Tryz.prog 89 78 3 (.int .i64 0) := ⟨Tryz.runUnderlying89, ⟨_, Tryz.runUnderlying78, fun _ _ => rfl⟩, key_check, key_eq, Tryz.zeroValue3, rfl⟩
theorem mapT_92 : MapT Tryz.prog 92 78 4 (.bool false) := ⟨Tryz.runUnderlying92, ⟨_, Tryz.runUnderlying78, fun _ _ => rfl⟩, key_check, key_eq, Tryz.zeroValue4, rfl⟩
set_option maxRecDepth 20000 in
theorem d_mesh_fill {gf gt : Nat} {F T : Ents} {s n0 n1 n2 n3 : Int} (h_T : IntM T) (hs : -1 ≤ s ∧ s ≤ 1) : DoesB Tryz.prog 29 [.one (.omap gf), .one (.omap gt), .one (.int .i64 s), .agg [.int .i64 n0, .int .i64 n1, .int .i64 n2, .int .i64 n3]] [.mpb gf F, .mpb gt T] fun R B => R = .tup [] ∧ B = [.mpb gf (fillM T s [n0, n1, n2, n3] F), .mpb gt T] := by
 refine does_ (n := 47) Tryz.func29 rfl Tryz.ntmps29 rfl ?_
 refine ac_seq (ac_reg ?_)
 refine w_ (p_boxS rfl rfl rfl rfl) ?_
 refine aw_nil ?_
 refine ac_seq (ac_reg ?_)
 refine w_ (p_move rfl rfl) ?_
 refine aw_nil ?_
 refine ac_block ?_
 refine ac_rounds 5 ?_
 refine ac_round ?_
 refine ac_seq (ac_reg ?_)
 refine w_ (p_cmp (b := true) rfl rfl rfl rfl) ?_
 refine aw_nil ?_
 refine ac_seq ?_
 refine ac_t rfl (rfl) ?_
 refine ac_skip ?_
 refine ac_cut (fun L B => ∃ F1, F1 = fillS T s [n0, n1, n2, n3] F 0 ∧ L = [(0, .one (.omap gf)), (1, .one (.omap gt)), (2, .one (.int .i64 s)), (7, .one (.sh [.int .i64 n0, .int .i64 n1, .int .i64 n2, .int .i64 n3])), (14, .one (.int .i64 0))] ∧ B = [.mpb gf F1, .mpb gt T]) ?_ ?_
 ·skip
  refine ac_block (ac_seq (ac_reg ?_))
  refine w_ (p_move rfl rfl) ?_
  refine w_ (p_assign rfl rfl) ?_
  refine aw_nil ?_
  refine ac_seq (ac_reg ?_)
  refine a_alloc Tryz.zeroValue78 rfl rfl fun g2 => ?_
  refine aw_nil ?_
  refine ac_seq (ac_reg ?_)
  refine w_ (p_assign rfl rfl) ?_
  refine aw_nil ?_
  refine ac_seq (ac_seq (ac_reg ?_))
  refine w_ (p_loadSh Tryz.isAgg69 Tryz.sizeOf69 rfl rfl rfl rfl) ?_
  refine w_ (p_move rfl rfl) ?_
  refine aw_nil ?_
  refine ac_block ?_
  refine ac_rounds 5 ?_
  refine ac_round ?_
  refine ac_seq (ac_reg ?_)
  refine w_ (p_cmp (b := true) rfl rfl rfl rfl) ?_
  refine aw_nil ?_
  refine ac_seq ?_
  refine ac_t rfl (rfl) ?_
  refine ac_skip ?_
  refine ac_seq (ac_block (ac_seq (ac_reg ?_)))
  refine w_ (p_move rfl rfl) ?_
  refine w_ (p_indexV 0 Tryz.runUnderlying69 Tryz.sizeOf3 Tryz.isAgg3 rfl rfl rfl (by decide) rfl rfl) ?_
  refine w_ (p_assign rfl rfl) ?_
  refine w_ (p_assign rfl rfl) ?_
  refine aw_nil ?_
  refine ac_seq (ac_reg ?_)
  refine w_ (p_move rfl rfl) ?_
  refine w_ (p_move rfl rfl) ?_
  refine w_ (p_cmp (b := false) rfl rfl rfl rfl) ?_
  refine aw_nil ?_
  refine ac_f rfl (rfl) ?_
  refine ac_skip ?_
  refine ac_reg ?_
  refine w_ (p_add (r := ((1 : Nat) : Int)) rfl rfl (rfl) rfl) ?_
  refine w_ (p_move rfl rfl) ?_
  refine aw_nil ?_
  refine ac_round ?_
  refine ac_seq (ac_reg ?_)
  refine w_ (p_cmp (b := true) rfl rfl rfl rfl) ?_
  refine aw_nil ?_
  refine ac_seq ?_
  refine ac_t rfl (rfl) ?_
  refine ac_skip ?_
  refine ac_seq (ac_block (ac_seq (ac_reg ?_)))
  refine w_ (p_move rfl rfl) ?_
  refine w_ (p_indexV 1 Tryz.runUnderlying69 Tryz.sizeOf3 Tryz.isAgg3 rfl rfl rfl (by decide) rfl rfl) ?_
  refine w_ (p_assign rfl rfl) ?_
  refine w_ (p_assign rfl rfl) ?_
  refine aw_nil ?_
  refine ac_seq (ac_reg ?_)
  refine w_ (p_move rfl rfl) ?_
  refine w_ (p_move rfl rfl) ?_
  refine w_ (p_cmp (b := true) rfl rfl rfl rfl) ?_
  refine aw_nil ?_
  refine ac_t rfl (rfl) ?_
  refine ac_seq (ac_reg ?_)
  refine w_ (p_move rfl rfl) ?_
  refine w_ (p_move rfl rfl) ?_
  refine w_ (p_indexArrOw 0 Tryz.runUnderlying78 Tryz.sizeOf3 rfl rfl rfl (by decide) rfl) ?_
  refine a_storeOw 0 Tryz.sizeOf3 rfl rfl rfl rfl rfl rfl rfl ?_
  refine aw_nil ?_
  refine ac_reg ?_
  refine w_ (p_move rfl rfl) ?_
  refine w_ (p_add (r := ((1 : Nat) : Int)) rfl rfl (rfl) rfl) ?_
  refine w_ (p_assign rfl rfl) ?_
  refine aw_nil ?_
  refine ac_reg ?_
  refine w_ (p_add (r := ((2 : Nat) : Int)) rfl rfl (rfl) rfl) ?_
  refine w_ (p_move rfl rfl) ?_
  refine aw_nil ?_
  refine ac_round ?_
  refine ac_seq (ac_reg ?_)
  refine w_ (p_cmp (b := true) rfl rfl rfl rfl) ?_
  refine aw_nil ?_
  refine ac_seq ?_
  refine ac_t rfl (rfl) ?_
  refine ac_skip ?_
  refine ac_seq (ac_block (ac_seq (ac_reg ?_)))
  refine w_ (p_move rfl rfl) ?_
  refine w_ (p_indexV 2 Tryz.runUnderlying69 Tryz.sizeOf3 Tryz.isAgg3 rfl rfl rfl (by decide) rfl rfl) ?_
  refine w_ (p_assign rfl rfl) ?_
  refine w_ (p_assign rfl rfl) ?_
  refine aw_nil ?_
  refine ac_seq (ac_reg ?_)
  refine w_ (p_move rfl rfl) ?_
  refine w_ (p_move rfl rfl) ?_
  refine w_ (p_cmp (b := true) rfl rfl rfl rfl) ?_
  refine aw_nil ?_
  refine ac_t rfl (rfl) ?_
  refine ac_seq (ac_reg ?_)
  refine w_ (p_move rfl rfl) ?_
  refine w_ (p_move rfl rfl) ?_
  refine w_ (p_indexArrOw 1 Tryz.runUnderlying78 Tryz.sizeOf3 rfl rfl rfl (by decide) rfl) ?_
  refine a_storeOw 0 Tryz.sizeOf3 rfl rfl rfl rfl rfl rfl rfl ?_
  refine aw_nil ?_
  refine ac_reg ?_
  refine w_ (p_move rfl rfl) ?_
  refine w_ (p_add (r := ((2 : Nat) : Int)) rfl rfl (rfl) rfl) ?_
  refine w_ (p_assign rfl rfl) ?_
  refine aw_nil ?_
  refine ac_reg ?_
  refine w_ (p_add (r := ((3 : Nat) : Int)) rfl rfl (rfl) rfl) ?_
  refine w_ (p_move rfl rfl) ?_
  refine aw_nil ?_
  refine ac_round ?_
  refine ac_seq (ac_reg ?_)
  refine w_ (p_cmp (b := true) rfl rfl rfl rfl) ?_
  refine aw_nil ?_
  refine ac_seq ?_
  refine ac_t rfl (rfl) ?_
  refine ac_skip ?_
  refine ac_seq (ac_block (ac_seq (ac_reg ?_)))
  refine w_ (p_move rfl rfl) ?_
  refine w_ (p_indexV 3 Tryz.runUnderlying69 Tryz.sizeOf3 Tryz.isAgg3 rfl rfl rfl (by decide) rfl rfl) ?_
  refine w_ (p_assign rfl rfl) ?_
  refine w_ (p_assign rfl rfl) ?_
  refine aw_nil ?_
  refine ac_seq (ac_reg ?_)
  refine w_ (p_move rfl rfl) ?_
  refine w_ (p_move rfl rfl) ?_
  refine w_ (p_cmp (b := true) rfl rfl rfl rfl) ?_
  refine aw_nil ?_
  refine ac_t rfl (rfl) ?_
  refine ac_seq (ac_reg ?_)
  refine w_ (p_move rfl rfl) ?_
  refine w_ (p_move rfl rfl) ?_
  refine w_ (p_indexArrOw 2 Tryz.runUnderlying78 Tryz.sizeOf3 rfl rfl rfl (by decide) rfl) ?_
  refine a_storeOw 0 Tryz.sizeOf3 rfl rfl rfl rfl rfl rfl rfl ?_
  refine aw_nil ?_
  refine ac_reg ?_
  refine w_ (p_move rfl rfl) ?_
  refine w_ (p_add (r := ((3 : Nat) : Int)) rfl rfl (rfl) rfl) ?_
  refine w_ (p_assign rfl rfl) ?_
  refine aw_nil ?_
  refine ac_reg ?_
  refine w_ (p_add (r := ((4 : Nat) : Int)) rfl rfl (rfl) rfl) ?_
  refine w_ (p_move rfl rfl) ?_
  refine aw_nil ?_
  refine ac_round ?_
  refine ac_seq (ac_reg ?_)
  refine w_ (p_cmp (b := false) rfl rfl rfl rfl) ?_
  refine aw_nil ?_
  refine ac_seq ?_
  refine ac_f rfl (rfl) ?_
  refine ac_exit ?_
  repeat refine seqQ_exit ?_
  refine blkQ_here ?_
  refine ac_seq (ac_reg ?_)
  refine w_ (p_move rfl rfl) ?_
  refine w_ (p_assign rfl rfl) ?_
  refine aw_nil ?_
  refine ac_seq (ac_seq (ac_reg ?_))
  refine w_ (p_move rfl rfl) ?_
  refine w_ (p_sub (r := ((3 : Nat) : Int)) rfl rfl (rfl) rfl) ?_
  refine w_ (p_rem (r := ((1 : Nat) : Int)) rfl rfl (by decide) (rfl) rfl) ?_
  refine w_ (p_cmp (b := true) rfl rfl rfl rfl) ?_
  refine aw_nil ?_
  refine ac_t rfl (rfl) ?_
  refine ac_reg ?_
  refine w_ (p_move rfl rfl) ?_
  refine w_ (p_neg (r := (-s)) rfl (i64_is rfl (by omega)) rfl) ?_
  refine w_ (p_assign rfl rfl) ?_
  refine aw_nil ?_
  refine ac_seq (ac_reg ?_)
  refine w_ (p_move rfl rfl) ?_
  refine w_ (p_loadOw 0 Tryz.isAgg78 Tryz.sizeOf78 rfl rfl rfl rfl rfl) ?_
  refine w_ (p_lookup (ks := [n1, n2, n3]) (r := .int .i64 ((intM T [n1, n2, n3]))) 2 mapT_89 rfl rfl rfl rfl ((h_T [n1, n2, n3]).1) rfl rfl) ?_
  refine w_ (p_move rfl rfl) ?_
  refine w_ (p_mul (r := ((intM T [n1, n2, n3]) * (-s))) rfl rfl (i64_is rfl (mul_small (h_T _).2 (by omega))) rfl) ?_
  refine w_ (p_cmp rfl rfl rfl rfl) ?_
  refine aw_nil ?_
  refine ac_cond rfl (fun hb_if5 => ?_) (fun hb_if5 => ?_)
  ·try simp only [decide_eq_true_eq, decide_eq_false_iff_not, Bool.not_eq_true', Bool.not_eq_false'] at hb_if5
   refine ac_reg ?_
   refine w_ (p_move rfl rfl) ?_
   refine w_ (p_loadOw 0 Tryz.isAgg78 Tryz.sizeOf78 rfl rfl rfl rfl rfl) ?_
   refine a_mapUpdate (ks := [n1, n2, n3]) (v := .bool true) 1 mapT_92 rfl rfl rfl rfl rfl rfl ?_
   refine aw_pick [0, 1, 2, 7, 14] rfl ?_
   refine aw_drop 1 rfl ?_
   refine aw_nil ?_
   exact ⟨((putM F [n1, n2, n3] (.bool true))), by show _ = if intM T [n1, n2, n3] * -s > 0 then putM F [n1, n2, n3] (.bool true) else F; rw [if_pos hb_if5], rfl, rfl⟩
  try simp only [decide_eq_true_eq, decide_eq_false_iff_not, Bool.not_eq_true', Bool.not_eq_false'] at hb_if5
  refine ac_pick [0, 1, 2, 7, 14] rfl ?_
  refine ac_drop 0 rfl ?_
  refine ac_skip ?_
  exact ⟨F, by show _ = if intM T [n1, n2, n3] * -s > 0 then putM F [n1, n2, n3] (.bool true) else F; rw [if_neg hb_if5], rfl, rfl⟩
 rintro L B ⟨F1, hp0, rfl, rfl⟩
 have hF1 := hp0
 skip
 refine ac_reg ?_
 refine w_ (p_add (r := ((1 : Nat) : Int)) rfl rfl (rfl) rfl) ?_
 refine w_ (p_move rfl rfl) ?_
 refine aw_nil ?_
 refine ac_round ?_
 refine ac_seq (ac_reg ?_)
 refine w_ (p_cmp (b := true) rfl rfl rfl rfl) ?_
 refine aw_nil ?_
 refine ac_seq ?_
 refine ac_t rfl (rfl) ?_
 refine ac_skip ?_
 refine ac_cut (fun L B => ∃ F3, F3 = fillS T s [n0, n1, n2, n3] F1 1 ∧ L = [(0, .one (.omap gf)), (1, .one (.omap gt)), (2, .one (.int .i64 s)), (7, .one (.sh [.int .i64 n0, .int .i64 n1, .int .i64 n2, .int .i64 n3])), (14, .one (.int .i64 (((1 : Nat) : Int))))] ∧ B = [.mpb gf F3, .mpb gt T]) ?_ ?_
 ·skip
  refine ac_block (ac_seq (ac_reg ?_))
  refine w_ (p_move rfl rfl) ?_
  refine w_ (p_assign rfl rfl) ?_
  refine aw_nil ?_
  refine ac_seq (ac_reg ?_)
  refine a_alloc Tryz.zeroValue78 rfl rfl fun g4 => ?_
  refine aw_nil ?_
  refine ac_seq (ac_reg ?_)
  refine w_ (p_assign rfl rfl) ?_
  refine aw_nil ?_
  refine ac_seq (ac_seq (ac_reg ?_))
  refine w_ (p_loadSh Tryz.isAgg69 Tryz.sizeOf69 rfl rfl rfl rfl) ?_
  refine w_ (p_move rfl rfl) ?_
  refine aw_nil ?_
  refine ac_block ?_
  refine ac_rounds 5 ?_
  refine ac_round ?_
  refine ac_seq (ac_reg ?_)
  refine w_ (p_cmp (b := true) rfl rfl rfl rfl) ?_
  refine aw_nil ?_
  refine ac_seq ?_
  refine ac_t rfl (rfl) ?_
  refine ac_skip ?_
  refine ac_seq (ac_block (ac_seq (ac_reg ?_)))
  refine w_ (p_move rfl rfl) ?_
  refine w_ (p_indexV 0 Tryz.runUnderlying69 Tryz.sizeOf3 Tryz.isAgg3 rfl rfl rfl (by decide) rfl rfl) ?_
  refine w_ (p_assign rfl rfl) ?_
  refine w_ (p_assign rfl rfl) ?_
  refine aw_nil ?_
  refine ac_seq (ac_reg ?_)
  refine w_ (p_move rfl rfl) ?_
  refine w_ (p_move rfl rfl) ?_
  refine w_ (p_cmp (b := true) rfl rfl rfl rfl) ?_
  refine aw_nil ?_
  refine ac_t rfl (rfl) ?_
  refine ac_seq (ac_reg ?_)
  refine w_ (p_move rfl rfl) ?_
  refine w_ (p_move rfl rfl) ?_
  refine w_ (p_indexArrOw 0 Tryz.runUnderlying78 Tryz.sizeOf3 rfl rfl rfl (by decide) rfl) ?_
  refine a_storeOw 0 Tryz.sizeOf3 rfl rfl rfl rfl rfl rfl rfl ?_
  refine aw_nil ?_
  refine ac_reg ?_
  refine w_ (p_move rfl rfl) ?_
  refine w_ (p_add (r := ((1 : Nat) : Int)) rfl rfl (rfl) rfl) ?_
  refine w_ (p_assign rfl rfl) ?_
  refine aw_nil ?_
  refine ac_reg ?_
  refine w_ (p_add (r := ((1 : Nat) : Int)) rfl rfl (rfl) rfl) ?_
  refine w_ (p_move rfl rfl) ?_
  refine aw_nil ?_
  refine ac_round ?_
  refine ac_seq (ac_reg ?_)
  refine w_ (p_cmp (b := true) rfl rfl rfl rfl) ?_
  refine aw_nil ?_
  refine ac_seq ?_
  refine ac_t rfl (rfl) ?_
  refine ac_skip ?_
  refine ac_seq (ac_block (ac_seq (ac_reg ?_)))
  refine w_ (p_move rfl rfl) ?_
  refine w_ (p_indexV 1 Tryz.runUnderlying69 Tryz.sizeOf3 Tryz.isAgg3 rfl rfl rfl (by decide) rfl rfl) ?_
  refine w_ (p_assign rfl rfl) ?_
  refine w_ (p_assign rfl rfl) ?_
  refine aw_nil ?_
  refine ac_seq (ac_reg ?_)
  refine w_ (p_move rfl rfl) ?_
  refine w_ (p_move rfl rfl) ?_
  refine w_ (p_cmp (b := false) rfl rfl rfl rfl) ?_
  refine aw_nil ?_
  refine ac_f rfl (rfl) ?_
  refine ac_skip ?_
  refine ac_reg ?_
  refine w_ (p_add (r := ((2 : Nat) : Int)) rfl rfl (rfl) rfl) ?_
  refine w_ (p_move rfl rfl) ?_
  refine aw_nil ?_
  refine ac_round ?_
  refine ac_seq (ac_reg ?_)
  refine w_ (p_cmp (b := true) rfl rfl rfl rfl) ?_
  refine aw_nil ?_
  refine ac_seq ?_
  refine ac_t rfl (rfl) ?_
  refine ac_skip ?_
  refine ac_seq (ac_block (ac_seq (ac_reg ?_)))
  refine w_ (p_move rfl rfl) ?_
  refine w_ (p_indexV 2 Tryz.runUnderlying69 Tryz.sizeOf3 Tryz.isAgg3 rfl rfl rfl (by decide) rfl rfl) ?_
  refine w_ (p_assign rfl rfl) ?_
  refine w_ (p_assign rfl rfl) ?_
  refine aw_nil ?_
  refine ac_seq (ac_reg ?_)
  refine w_ (p_move rfl rfl) ?_
  refine w_ (p_move rfl rfl) ?_
  refine w_ (p_cmp (b := true) rfl rfl rfl rfl) ?_
  refine aw_nil ?_
  refine ac_t rfl (rfl) ?_
  refine ac_seq (ac_reg ?_)
  refine w_ (p_move rfl rfl) ?_
  refine w_ (p_move rfl rfl) ?_
  refine w_ (p_indexArrOw 1 Tryz.runUnderlying78 Tryz.sizeOf3 rfl rfl rfl (by decide) rfl) ?_
  refine a_storeOw 0 Tryz.sizeOf3 rfl rfl rfl rfl rfl rfl rfl ?_
  refine aw_nil ?_
  refine ac_reg ?_
  refine w_ (p_move rfl rfl) ?_
  refine w_ (p_add (r := ((2 : Nat) : Int)) rfl rfl (rfl) rfl) ?_
  refine w_ (p_assign rfl rfl) ?_
  refine aw_nil ?_
  refine ac_reg ?_
  refine w_ (p_add (r := ((3 : Nat) : Int)) rfl rfl (rfl) rfl) ?_
  refine w_ (p_move rfl rfl) ?_
  refine aw_nil ?_
  refine ac_round ?_
  refine ac_seq (ac_reg ?_)
  refine w_ (p_cmp (b := true) rfl rfl rfl rfl) ?_
  refine aw_nil ?_
  refine ac_seq ?_
  refine ac_t rfl (rfl) ?_
  refine ac_skip ?_
  refine ac_seq (ac_block (ac_seq (ac_reg ?_)))
  refine w_ (p_move rfl rfl) ?_
  refine w_ (p_indexV 3 Tryz.runUnderlying69 Tryz.sizeOf3 Tryz.isAgg3 rfl rfl rfl (by decide) rfl rfl) ?_
  refine w_ (p_assign rfl rfl) ?_
  refine w_ (p_assign rfl rfl) ?_
  refine aw_nil ?_
  refine ac_seq (ac_reg ?_)
  refine w_ (p_move rfl rfl) ?_
  refine w_ (p_move rfl rfl) ?_
  refine w_ (p_cmp (b := true) rfl rfl rfl rfl) ?_
  refine aw_nil ?_
  refine ac_t rfl (rfl) ?_
  refine ac_seq (ac_reg ?_)
  refine w_ (p_move rfl rfl) ?_
  refine w_ (p_move rfl rfl) ?_
  refine w_ (p_indexArrOw 2 Tryz.runUnderlying78 Tryz.sizeOf3 rfl rfl rfl (by decide) rfl) ?_
  refine a_storeOw 0 Tryz.sizeOf3 rfl rfl rfl rfl rfl rfl rfl ?_
  refine aw_nil ?_
  refine ac_reg ?_
  refine w_ (p_move rfl rfl) ?_
  refine w_ (p_add (r := ((3 : Nat) : Int)) rfl rfl (rfl) rfl) ?_
  refine w_ (p_assign rfl rfl) ?_
  refine aw_nil ?_
  refine ac_reg ?_
  refine w_ (p_add (r := ((4 : Nat) : Int)) rfl rfl (rfl) rfl) ?_
  refine w_ (p_move rfl rfl) ?_
  refine aw_nil ?_
  refine ac_round ?_
  refine ac_seq (ac_reg ?_)
  refine w_ (p_cmp (b := false) rfl rfl rfl rfl) ?_
  refine aw_nil ?_
  refine ac_seq ?_
  refine ac_f rfl (rfl) ?_
  refine ac_exit ?_
  repeat refine seqQ_exit ?_
  refine blkQ_here ?_
  refine ac_seq (ac_reg ?_)
  refine w_ (p_move rfl rfl) ?_
  refine w_ (p_assign rfl rfl) ?_
  refine aw_nil ?_
  refine ac_seq (ac_seq (ac_reg ?_))
  refine w_ (p_move rfl rfl) ?_
  refine w_ (p_sub (r := ((2 : Nat) : Int)) rfl rfl (rfl) rfl) ?_
  refine w_ (p_rem (r := ((0 : Nat) : Int)) rfl rfl (by decide) (rfl) rfl) ?_
  refine w_ (p_cmp (b := false) rfl rfl rfl rfl) ?_
  refine aw_nil ?_
  refine ac_f rfl (rfl) ?_
  refine ac_skip ?_
  refine ac_seq (ac_reg ?_)
  refine w_ (p_move rfl rfl) ?_
  refine w_ (p_loadOw 0 Tryz.isAgg78 Tryz.sizeOf78 rfl rfl rfl rfl rfl) ?_
  refine w_ (p_lookup (ks := [n0, n2, n3]) (r := .int .i64 ((intM T [n0, n2, n3]))) 2 mapT_89 rfl rfl rfl rfl ((h_T [n0, n2, n3]).1) rfl rfl) ?_
  refine w_ (p_move rfl rfl) ?_
  refine w_ (p_mul (r := ((intM T [n0, n2, n3]) * s)) rfl rfl (i64_is rfl (mul_small (h_T _).2 (by omega))) rfl) ?_
  refine w_ (p_cmp rfl rfl rfl rfl) ?_
  refine aw_nil ?_
  refine ac_cond rfl (fun hb_if5 => ?_) (fun hb_if5 => ?_)
  ·try simp only [decide_eq_true_eq, decide_eq_false_iff_not, Bool.not_eq_true', Bool.not_eq_false'] at hb_if5
   refine ac_reg ?_
   refine w_ (p_move rfl rfl) ?_
   refine w_ (p_loadOw 0 Tryz.isAgg78 Tryz.sizeOf78 rfl rfl rfl rfl rfl) ?_
   refine a_mapUpdate (ks := [n0, n2, n3]) (v := .bool true) 1 mapT_92 rfl rfl rfl rfl rfl rfl ?_
   refine aw_pick [0, 1, 2, 7, 14] rfl ?_
   refine aw_drop 1 rfl ?_
   refine aw_nil ?_
   exact ⟨((putM F1 [n0, n2, n3] (.bool true))), by show _ = if intM T [n0, n2, n3] * s > 0 then putM F1 [n0, n2, n3] (.bool true) else F1; rw [if_pos hb_if5], rfl, rfl⟩
  try simp only [decide_eq_true_eq, decide_eq_false_iff_not, Bool.not_eq_true', Bool.not_eq_false'] at hb_if5
  refine ac_pick [0, 1, 2, 7, 14] rfl ?_
  refine ac_drop 0 rfl ?_
  refine ac_skip ?_
  exact ⟨F1, by show _ = if intM T [n0, n2, n3] * s > 0 then putM F1 [n0, n2, n3] (.bool true) else F1; rw [if_neg hb_if5], rfl, rfl⟩
 rintro L B ⟨F3, hp0, rfl, rfl⟩
 have hF3 := hp0
 skip
 refine ac_reg ?_
 refine w_ (p_add (r := ((2 : Nat) : Int)) rfl rfl (rfl) rfl) ?_
 refine w_ (p_move rfl rfl) ?_
 refine aw_nil ?_
 refine ac_round ?_
 refine ac_seq (ac_reg ?_)
 refine w_ (p_cmp (b := true) rfl rfl rfl rfl) ?_
 refine aw_nil ?_
 refine ac_seq ?_
 refine ac_t rfl (rfl) ?_
 refine ac_skip ?_
 refine ac_cut (fun L B => ∃ F5, F5 = fillS T s [n0, n1, n2, n3] F3 2 ∧ L = [(0, .one (.omap gf)), (1, .one (.omap gt)), (2, .one (.int .i64 s)), (7, .one (.sh [.int .i64 n0, .int .i64 n1, .int .i64 n2, .int .i64 n3])), (14, .one (.int .i64 (((2 : Nat) : Int))))] ∧ B = [.mpb gf F5, .mpb gt T]) ?_ ?_
 ·skip
  refine ac_block (ac_seq (ac_reg ?_))
  refine w_ (p_move rfl rfl) ?_
  refine w_ (p_assign rfl rfl) ?_
  refine aw_nil ?_
  refine ac_seq (ac_reg ?_)
  refine a_alloc Tryz.zeroValue78 rfl rfl fun g6 => ?_
  refine aw_nil ?_
  refine ac_seq (ac_reg ?_)
  refine w_ (p_assign rfl rfl) ?_
  refine aw_nil ?_
  refine ac_seq (ac_seq (ac_reg ?_))
  refine w_ (p_loadSh Tryz.isAgg69 Tryz.sizeOf69 rfl rfl rfl rfl) ?_
  refine w_ (p_move rfl rfl) ?_
  refine aw_nil ?_
  refine ac_block ?_
  refine ac_rounds 5 ?_
  refine ac_round ?_
  refine ac_seq (ac_reg ?_)
  refine w_ (p_cmp (b := true) rfl rfl rfl rfl) ?_
  refine aw_nil ?_
  refine ac_seq ?_
  refine ac_t rfl (rfl) ?_
  refine ac_skip ?_
  refine ac_seq (ac_block (ac_seq (ac_reg ?_)))
  refine w_ (p_move rfl rfl) ?_
  refine w_ (p_indexV 0 Tryz.runUnderlying69 Tryz.sizeOf3 Tryz.isAgg3 rfl rfl rfl (by decide) rfl rfl) ?_
  refine w_ (p_assign rfl rfl) ?_
  refine w_ (p_assign rfl rfl) ?_
  refine aw_nil ?_
  refine ac_seq (ac_reg ?_)
  refine w_ (p_move rfl rfl) ?_
  refine w_ (p_move rfl rfl) ?_
  refine w_ (p_cmp (b := true) rfl rfl rfl rfl) ?_
  refine aw_nil ?_
  refine ac_t rfl (rfl) ?_
  refine ac_seq (ac_reg ?_)
  refine w_ (p_move rfl rfl) ?_
  refine w_ (p_move rfl rfl) ?_
  refine w_ (p_indexArrOw 0 Tryz.runUnderlying78 Tryz.sizeOf3 rfl rfl rfl (by decide) rfl) ?_
  refine a_storeOw 0 Tryz.sizeOf3 rfl rfl rfl rfl rfl rfl rfl ?_
  refine aw_nil ?_
  refine ac_reg ?_
  refine w_ (p_move rfl rfl) ?_
  refine w_ (p_add (r := ((1 : Nat) : Int)) rfl rfl (rfl) rfl) ?_
  refine w_ (p_assign rfl rfl) ?_
  refine aw_nil ?_
  refine ac_reg ?_
  refine w_ (p_add (r := ((1 : Nat) : Int)) rfl rfl (rfl) rfl) ?_
  refine w_ (p_move rfl rfl) ?_
  refine aw_nil ?_
  refine ac_round ?_
  refine ac_seq (ac_reg ?_)
  refine w_ (p_cmp (b := true) rfl rfl rfl rfl) ?_
  refine aw_nil ?_
  refine ac_seq ?_
  refine ac_t rfl (rfl) ?_
  refine ac_skip ?_
  refine ac_seq (ac_block (ac_seq (ac_reg ?_)))
  refine w_ (p_move rfl rfl) ?_
  refine w_ (p_indexV 1 Tryz.runUnderlying69 Tryz.sizeOf3 Tryz.isAgg3 rfl rfl rfl (by decide) rfl rfl) ?_
  refine w_ (p_assign rfl rfl) ?_
  refine w_ (p_assign rfl rfl) ?_
  refine aw_nil ?_
  refine ac_seq (ac_reg ?_)
  refine w_ (p_move rfl rfl) ?_
  refine w_ (p_move rfl rfl) ?_
  refine w_ (p_cmp (b := true) rfl rfl rfl rfl) ?_
  refine aw_nil ?_
  refine ac_t rfl (rfl) ?_
  refine ac_seq (ac_reg ?_)
  refine w_ (p_move rfl rfl) ?_
  refine w_ (p_move rfl rfl) ?_
  refine w_ (p_indexArrOw 1 Tryz.runUnderlying78 Tryz.sizeOf3 rfl rfl rfl (by decide) rfl) ?_
  refine a_storeOw 0 Tryz.sizeOf3 rfl rfl rfl rfl rfl rfl rfl ?_
  refine aw_nil ?_
  refine ac_reg ?_
  refine w_ (p_move rfl rfl) ?_
  refine w_ (p_add (r := ((2 : Nat) : Int)) rfl rfl (rfl) rfl) ?_
  refine w_ (p_assign rfl rfl) ?_
  refine aw_nil ?_
  refine ac_reg ?_
  refine w_ (p_add (r := ((2 : Nat) : Int)) rfl rfl (rfl) rfl) ?_
  refine w_ (p_move rfl rfl) ?_
  refine aw_nil ?_
  refine ac_round ?_
  refine ac_seq (ac_reg ?_)
  refine w_ (p_cmp (b := true) rfl rfl rfl rfl) ?_
  refine aw_nil ?_
  refine ac_seq ?_
  refine ac_t rfl (rfl) ?_
  refine ac_skip ?_
  refine ac_seq (ac_block (ac_seq (ac_reg ?_)))
  refine w_ (p_move rfl rfl) ?_
  refine w_ (p_indexV 2 Tryz.runUnderlying69 Tryz.sizeOf3 Tryz.isAgg3 rfl rfl rfl (by decide) rfl rfl) ?_
  refine w_ (p_assign rfl rfl) ?_
  refine w_ (p_assign rfl rfl) ?_
  refine aw_nil ?_
  refine ac_seq (ac_reg ?_)
  refine w_ (p_move rfl rfl) ?_
  refine w_ (p_move rfl rfl) ?_
  refine w_ (p_cmp (b := false) rfl rfl rfl rfl) ?_
  refine aw_nil ?_
  refine ac_f rfl (rfl) ?_
  refine ac_skip ?_
  refine ac_reg ?_
  refine w_ (p_add (r := ((3 : Nat) : Int)) rfl rfl (rfl) rfl) ?_
  refine w_ (p_move rfl rfl) ?_
  refine aw_nil ?_
  refine ac_round ?_
  refine ac_seq (ac_reg ?_)
  refine w_ (p_cmp (b := true) rfl rfl rfl rfl) ?_
  refine aw_nil ?_
  refine ac_seq ?_
  refine ac_t rfl (rfl) ?_
  refine ac_skip ?_
  refine ac_seq (ac_block (ac_seq (ac_reg ?_)))
  refine w_ (p_move rfl rfl) ?_
  refine w_ (p_indexV 3 Tryz.runUnderlying69 Tryz.sizeOf3 Tryz.isAgg3 rfl rfl rfl (by decide) rfl rfl) ?_
  refine w_ (p_assign rfl rfl) ?_
  refine w_ (p_assign rfl rfl) ?_
  refine aw_nil ?_
  refine ac_seq (ac_reg ?_)
  refine w_ (p_move rfl rfl) ?_
  refine w_ (p_move rfl rfl) ?_
  refine w_ (p_cmp (b := true) rfl rfl rfl rfl) ?_
  refine aw_nil ?_
  refine ac_t rfl (rfl) ?_
  refine ac_seq (ac_reg ?_)
  refine w_ (p_move rfl rfl) ?_
  refine w_ (p_move rfl rfl) ?_
  refine w_ (p_indexArrOw 2 Tryz.runUnderlying78 Tryz.sizeOf3 rfl rfl rfl (by decide) rfl) ?_
  refine a_storeOw 0 Tryz.sizeOf3 rfl rfl rfl rfl rfl rfl rfl ?_
  refine aw_nil ?_
  refine ac_reg ?_
  refine w_ (p_move rfl rfl) ?_
  refine w_ (p_add (r := ((3 : Nat) : Int)) rfl rfl (rfl) rfl) ?_
  refine w_ (p_assign rfl rfl) ?_
  refine aw_nil ?_
  refine ac_reg ?_
  refine w_ (p_add (r := ((4 : Nat) : Int)) rfl rfl (rfl) rfl) ?_
  refine w_ (p_move rfl rfl) ?_
  refine aw_nil ?_
  refine ac_round ?_
  refine ac_seq (ac_reg ?_)
  refine w_ (p_cmp (b := false) rfl rfl rfl rfl) ?_
  refine aw_nil ?_
  refine ac_seq ?_
  refine ac_f rfl (rfl) ?_
  refine ac_exit ?_
  repeat refine seqQ_exit ?_
  refine blkQ_here ?_
  refine ac_seq (ac_reg ?_)
  refine w_ (p_move rfl rfl) ?_
  refine w_ (p_assign rfl rfl) ?_
  refine aw_nil ?_
  refine ac_seq (ac_seq (ac_reg ?_))
  refine w_ (p_move rfl rfl) ?_
  refine w_ (p_sub (r := ((1 : Nat) : Int)) rfl rfl (rfl) rfl) ?_
  refine w_ (p_rem (r := ((1 : Nat) : Int)) rfl rfl (by decide) (rfl) rfl) ?_
  refine w_ (p_cmp (b := true) rfl rfl rfl rfl) ?_
  refine aw_nil ?_
  refine ac_t rfl (rfl) ?_
  refine ac_reg ?_
  refine w_ (p_move rfl rfl) ?_
  refine w_ (p_neg (r := (-s)) rfl (i64_is rfl (by omega)) rfl) ?_
  refine w_ (p_assign rfl rfl) ?_
  refine aw_nil ?_
  refine ac_seq (ac_reg ?_)
  refine w_ (p_move rfl rfl) ?_
  refine w_ (p_loadOw 0 Tryz.isAgg78 Tryz.sizeOf78 rfl rfl rfl rfl rfl) ?_
  refine w_ (p_lookup (ks := [n0, n1, n3]) (r := .int .i64 ((intM T [n0, n1, n3]))) 2 mapT_89 rfl rfl rfl rfl ((h_T [n0, n1, n3]).1) rfl rfl) ?_
  refine w_ (p_move rfl rfl) ?_
  refine w_ (p_mul (r := ((intM T [n0, n1, n3]) * (-s))) rfl rfl (i64_is rfl (mul_small (h_T _).2 (by omega))) rfl) ?_
  refine w_ (p_cmp rfl rfl rfl rfl) ?_
  refine aw_nil ?_
  refine ac_cond rfl (fun hb_if5 => ?_) (fun hb_if5 => ?_)
  ·try simp only [decide_eq_true_eq, decide_eq_false_iff_not, Bool.not_eq_true', Bool.not_eq_false'] at hb_if5
   refine ac_reg ?_
   refine w_ (p_move rfl rfl) ?_
   refine w_ (p_loadOw 0 Tryz.isAgg78 Tryz.sizeOf78 rfl rfl rfl rfl rfl) ?_
   refine a_mapUpdate (ks := [n0, n1, n3]) (v := .bool true) 1 mapT_92 rfl rfl rfl rfl rfl rfl ?_
   refine aw_pick [0, 1, 2, 7, 14] rfl ?_
   refine aw_drop 1 rfl ?_
   refine aw_nil ?_
   exact ⟨((putM F3 [n0, n1, n3] (.bool true))), by show _ = if intM T [n0, n1, n3] * -s > 0 then putM F3 [n0, n1, n3] (.bool true) else F3; rw [if_pos hb_if5], rfl, rfl⟩
  try simp only [decide_eq_true_eq, decide_eq_false_iff_not, Bool.not_eq_true', Bool.not_eq_false'] at hb_if5
  refine ac_pick [0, 1, 2, 7, 14] rfl ?_
  refine ac_drop 0 rfl ?_
  refine ac_skip ?_
  exact ⟨F3, by show _ = if intM T [n0, n1, n3] * -s > 0 then putM F3 [n0, n1, n3] (.bool true) else F3; rw [if_neg hb_if5], rfl, rfl⟩
 rintro L B ⟨F5, hp0, rfl, rfl⟩
 have hF5 := hp0
 skip
 refine ac_reg ?_
 refine w_ (p_add (r := ((3 : Nat) : Int)) rfl rfl (rfl) rfl) ?_
 refine w_ (p_move rfl rfl) ?_
 refine aw_nil ?_
 refine ac_round ?_
 refine ac_seq (ac_reg ?_)
 refine w_ (p_cmp (b := true) rfl rfl rfl rfl) ?_
 refine aw_nil ?_
 refine ac_seq ?_
 refine ac_t rfl (rfl) ?_
 refine ac_skip ?_
 refine ac_cut (fun L B => ∃ F7, F7 = fillS T s [n0, n1, n2, n3] F5 3 ∧ L = [(0, .one (.omap gf)), (1, .one (.omap gt)), (2, .one (.int .i64 s)), (7, .one (.sh [.int .i64 n0, .int .i64 n1, .int .i64 n2, .int .i64 n3])), (14, .one (.int .i64 (((3 : Nat) : Int))))] ∧ B = [.mpb gf F7, .mpb gt T]) ?_ ?_
 ·skip
  refine ac_block (ac_seq (ac_reg ?_))
  refine w_ (p_move rfl rfl) ?_
  refine w_ (p_assign rfl rfl) ?_
  refine aw_nil ?_
  refine ac_seq (ac_reg ?_)
  refine a_alloc Tryz.zeroValue78 rfl rfl fun g8 => ?_
  refine aw_nil ?_
  refine ac_seq (ac_reg ?_)
  refine w_ (p_assign rfl rfl) ?_
  refine aw_nil ?_
  refine ac_seq (ac_seq (ac_reg ?_))
  refine w_ (p_loadSh Tryz.isAgg69 Tryz.sizeOf69 rfl rfl rfl rfl) ?_
  refine w_ (p_move rfl rfl) ?_
  refine aw_nil ?_
  refine ac_block ?_
  refine ac_rounds 5 ?_
  refine ac_round ?_
  refine ac_seq (ac_reg ?_)
  refine w_ (p_cmp (b := true) rfl rfl rfl rfl) ?_
  refine aw_nil ?_
  refine ac_seq ?_
  refine ac_t rfl (rfl) ?_
  refine ac_skip ?_
  refine ac_seq (ac_block (ac_seq (ac_reg ?_)))
  refine w_ (p_move rfl rfl) ?_
  refine w_ (p_indexV 0 Tryz.runUnderlying69 Tryz.sizeOf3 Tryz.isAgg3 rfl rfl rfl (by decide) rfl rfl) ?_
  refine w_ (p_assign rfl rfl) ?_
  refine w_ (p_assign rfl rfl) ?_
  refine aw_nil ?_
  refine ac_seq (ac_reg ?_)
  refine w_ (p_move rfl rfl) ?_
  refine w_ (p_move rfl rfl) ?_
  refine w_ (p_cmp (b := true) rfl rfl rfl rfl) ?_
  refine aw_nil ?_
  refine ac_t rfl (rfl) ?_
  refine ac_seq (ac_reg ?_)
  refine w_ (p_move rfl rfl) ?_
  refine w_ (p_move rfl rfl) ?_
  refine w_ (p_indexArrOw 0 Tryz.runUnderlying78 Tryz.sizeOf3 rfl rfl rfl (by decide) rfl) ?_
  refine a_storeOw 0 Tryz.sizeOf3 rfl rfl rfl rfl rfl rfl rfl ?_
  refine aw_nil ?_
  refine ac_reg ?_
  refine w_ (p_move rfl rfl) ?_
  refine w_ (p_add (r := ((1 : Nat) : Int)) rfl rfl (rfl) rfl) ?_
  refine w_ (p_assign rfl rfl) ?_
  refine aw_nil ?_
  refine ac_reg ?_
  refine w_ (p_add (r := ((1 : Nat) : Int)) rfl rfl (rfl) rfl) ?_
  refine w_ (p_move rfl rfl) ?_
  refine aw_nil ?_
  refine ac_round ?_
  refine ac_seq (ac_reg ?_)
  refine w_ (p_cmp (b := true) rfl rfl rfl rfl) ?_
  refine aw_nil ?_
  refine ac_seq ?_
  refine ac_t rfl (rfl) ?_
  refine ac_skip ?_
  refine ac_seq (ac_block (ac_seq (ac_reg ?_)))
  refine w_ (p_move rfl rfl) ?_
  refine w_ (p_indexV 1 Tryz.runUnderlying69 Tryz.sizeOf3 Tryz.isAgg3 rfl rfl rfl (by decide) rfl rfl) ?_
  refine w_ (p_assign rfl rfl) ?_
  refine w_ (p_assign rfl rfl) ?_
  refine aw_nil ?_
  refine ac_seq (ac_reg ?_)
  refine w_ (p_move rfl rfl) ?_
  refine w_ (p_move rfl rfl) ?_
  refine w_ (p_cmp (b := true) rfl rfl rfl rfl) ?_
  refine aw_nil ?_
  refine ac_t rfl (rfl) ?_
  refine ac_seq (ac_reg ?_)
  refine w_ (p_move rfl rfl) ?_
  refine w_ (p_move rfl rfl) ?_
  refine w_ (p_indexArrOw 1 Tryz.runUnderlying78 Tryz.sizeOf3 rfl rfl rfl (by decide) rfl) ?_
  refine a_storeOw 0 Tryz.sizeOf3 rfl rfl rfl rfl rfl rfl rfl ?_
  refine aw_nil ?_
  refine ac_reg ?_
  refine w_ (p_move rfl rfl) ?_
  refine w_ (p_add (r := ((2 : Nat) : Int)) rfl rfl (rfl) rfl) ?_
  refine w_ (p_assign rfl rfl) ?_
  refine aw_nil ?_
  refine ac_reg ?_
  refine w_ (p_add (r := ((2 : Nat) : Int)) rfl rfl (rfl) rfl) ?_
  refine w_ (p_move rfl rfl) ?_
  refine aw_nil ?_
  refine ac_round ?_
  refine ac_seq (ac_reg ?_)
  refine w_ (p_cmp (b := true) rfl rfl rfl rfl) ?_
  refine aw_nil ?_
  refine ac_seq ?_
  refine ac_t rfl (rfl) ?_
  refine ac_skip ?_
  refine ac_seq (ac_block (ac_seq (ac_reg ?_)))
  refine w_ (p_move rfl rfl) ?_
  refine w_ (p_indexV 2 Tryz.runUnderlying69 Tryz.sizeOf3 Tryz.isAgg3 rfl rfl rfl (by decide) rfl rfl) ?_
  refine w_ (p_assign rfl rfl) ?_
  refine w_ (p_assign rfl rfl) ?_
  refine aw_nil ?_
  refine ac_seq (ac_reg ?_)
  refine w_ (p_move rfl rfl) ?_
  refine w_ (p_move rfl rfl) ?_
  refine w_ (p_cmp (b := true) rfl rfl rfl rfl) ?_
  refine aw_nil ?_
  refine ac_t rfl (rfl) ?_
  refine ac_seq (ac_reg ?_)
  refine w_ (p_move rfl rfl) ?_
  refine w_ (p_move rfl rfl) ?_
  refine w_ (p_indexArrOw 2 Tryz.runUnderlying78 Tryz.sizeOf3 rfl rfl rfl (by decide) rfl) ?_
  refine a_storeOw 0 Tryz.sizeOf3 rfl rfl rfl rfl rfl rfl rfl ?_
  refine aw_nil ?_
  refine ac_reg ?_
  refine w_ (p_move rfl rfl) ?_
  refine w_ (p_add (r := ((3 : Nat) : Int)) rfl rfl (rfl) rfl) ?_
  refine w_ (p_assign rfl rfl) ?_
  refine aw_nil ?_
  refine ac_reg ?_
  refine w_ (p_add (r := ((3 : Nat) : Int)) rfl rfl (rfl) rfl) ?_
  refine w_ (p_move rfl rfl) ?_
  refine aw_nil ?_
  refine ac_round ?_
  refine ac_seq (ac_reg ?_)
  refine w_ (p_cmp (b := true) rfl rfl rfl rfl) ?_
  refine aw_nil ?_
  refine ac_seq ?_
  refine ac_t rfl (rfl) ?_
  refine ac_skip ?_
  refine ac_seq (ac_block (ac_seq (ac_reg ?_)))
  refine w_ (p_move rfl rfl) ?_
  refine w_ (p_indexV 3 Tryz.runUnderlying69 Tryz.sizeOf3 Tryz.isAgg3 rfl rfl rfl (by decide) rfl rfl) ?_
  refine w_ (p_assign rfl rfl) ?_
  refine w_ (p_assign rfl rfl) ?_
  refine aw_nil ?_
  refine ac_seq (ac_reg ?_)
  refine w_ (p_move rfl rfl) ?_
  refine w_ (p_move rfl rfl) ?_
  refine w_ (p_cmp (b := false) rfl rfl rfl rfl) ?_
  refine aw_nil ?_
  refine ac_f rfl (rfl) ?_
  refine ac_skip ?_
  refine ac_reg ?_
  refine w_ (p_add (r := ((4 : Nat) : Int)) rfl rfl (rfl) rfl) ?_
  refine w_ (p_move rfl rfl) ?_
  refine aw_nil ?_
  refine ac_round ?_
  refine ac_seq (ac_reg ?_)
  refine w_ (p_cmp (b := false) rfl rfl rfl rfl) ?_
  refine aw_nil ?_
  refine ac_seq ?_
  refine ac_f rfl (rfl) ?_
  refine ac_exit ?_
  repeat refine seqQ_exit ?_
  refine blkQ_here ?_
  refine ac_seq (ac_reg ?_)
  refine w_ (p_move rfl rfl) ?_
  refine w_ (p_assign rfl rfl) ?_
  refine aw_nil ?_
  refine ac_seq (ac_seq (ac_reg ?_))
  refine w_ (p_move rfl rfl) ?_
  refine w_ (p_sub (r := ((0 : Nat) : Int)) rfl rfl (rfl) rfl) ?_
  refine w_ (p_rem (r := ((0 : Nat) : Int)) rfl rfl (by decide) (rfl) rfl) ?_
  refine w_ (p_cmp (b := false) rfl rfl rfl rfl) ?_
  refine aw_nil ?_
  refine ac_f rfl (rfl) ?_
  refine ac_skip ?_
  refine ac_seq (ac_reg ?_)
  refine w_ (p_move rfl rfl) ?_
  refine w_ (p_loadOw 0 Tryz.isAgg78 Tryz.sizeOf78 rfl rfl rfl rfl rfl) ?_
  refine w_ (p_lookup (ks := [n0, n1, n2]) (r := .int .i64 ((intM T [n0, n1, n2]))) 2 mapT_89 rfl rfl rfl rfl ((h_T [n0, n1, n2]).1) rfl rfl) ?_
  refine w_ (p_move rfl rfl) ?_
  refine w_ (p_mul (r := ((intM T [n0, n1, n2]) * s)) rfl rfl (i64_is rfl (mul_small (h_T _).2 (by omega))) rfl) ?_
  refine w_ (p_cmp rfl rfl rfl rfl) ?_
  refine aw_nil ?_
  refine ac_cond rfl (fun hb_if5 => ?_) (fun hb_if5 => ?_)
  ·try simp only [decide_eq_true_eq, decide_eq_false_iff_not, Bool.not_eq_true', Bool.not_eq_false'] at hb_if5
   refine ac_reg ?_
   refine w_ (p_move rfl rfl) ?_
   refine w_ (p_loadOw 0 Tryz.isAgg78 Tryz.sizeOf78 rfl rfl rfl rfl rfl) ?_
   refine a_mapUpdate (ks := [n0, n1, n2]) (v := .bool true) 1 mapT_92 rfl rfl rfl rfl rfl rfl ?_
   refine aw_pick [0, 1, 2, 7, 14] rfl ?_
   refine aw_drop 1 rfl ?_
   refine aw_nil ?_
   exact ⟨((putM F5 [n0, n1, n2] (.bool true))), by show _ = if intM T [n0, n1, n2] * s > 0 then putM F5 [n0, n1, n2] (.bool true) else F5; rw [if_pos hb_if5], rfl, rfl⟩
  try simp only [decide_eq_true_eq, decide_eq_false_iff_not, Bool.not_eq_true', Bool.not_eq_false'] at hb_if5
  refine ac_pick [0, 1, 2, 7, 14] rfl ?_
  refine ac_drop 0 rfl ?_
  refine ac_skip ?_
  exact ⟨F5, by show _ = if intM T [n0, n1, n2] * s > 0 then putM F5 [n0, n1, n2] (.bool true) else F5; rw [if_neg hb_if5], rfl, rfl⟩
 rintro L B ⟨F7, hp0, rfl, rfl⟩
 have hF7 := hp0
 skip
 refine ac_reg ?_
 refine w_ (p_add (r := ((4 : Nat) : Int)) rfl rfl (rfl) rfl) ?_
 refine w_ (p_move rfl rfl) ?_
 refine aw_nil ?_
 refine ac_round ?_
 refine ac_seq (ac_reg ?_)
 refine w_ (p_cmp (b := false) rfl rfl rfl rfl) ?_
 refine aw_nil ?_
 refine ac_seq ?_
 refine ac_f rfl (rfl) ?_
 refine ac_exit ?_
 repeat refine seqQ_exit ?_
 refine blkQ_here ?_
 -- end
 exact ⟨_, [], _, rvs_0 Tryz.results29 , rfl, ⟨rfl, by rw [hF7, hF5, hF3, hF1]; rfl⟩⟩
set_option maxRecDepth 20000 in
theorem d_mesh_Triples {g : Nat} {c0 c1 c2 c3 c4 c5 c6 c7 c8 c9 c10 c11 y0 : LV} {ts : List P3} (hn : ts.length ≤ 1000) : DoesB Tryz.prog 8 [.one (.ow g 0)] [.blk g 54 [c0, c1, c2, c3, c4, c5, c6, c7, c8, c9, c10, c11, y0, tris ts]] fun r B => r = .one (tris ts) ∧ B = [.blk g 54 [c0, c1, c2, c3, c4, c5, c6, c7, c8, c9, c10, c11, y0, tris ts]] := by
 refine does_ (n := 8) Tryz.func8 rfl Tryz.ntmps8 rfl ?_
 refine ac_seq (ac_reg ?_)
 refine w_ (p_assign rfl rfl) ?_
 refine aw_nil ?_
 refine ac_seq (ac_reg ?_)
 refine w_ (p_move rfl rfl) ?_
 refine w_ (p_nilCheck rfl rfl rfl) ?_
 refine w_ (p_fieldOw fa_54_2 rfl rfl) ?_
 refine w_ (p_loadOw 0 Tryz.isAgg52 Tryz.sizeOf52 rfl rfl rfl rfl rfl) ?_
 refine a_appendN (ls2 := (ts.map trL)) (m2 := ts.length) Tryz.runUnderlying52 Tryz.runUnderlying52 Tryz.typeInfo78 rfl rfl Tryz.sizeOf78 Tryz.zeroValue78 rfl rfl rfl rfl rfl rfl rfl (map_w _ (fun _ => rfl)) (map_f _ (fun _ => rfl)) (by rw [List.length_map]; omega) (rfl) (List.length_map _) fun r1 => ?_
 refine w_ (p_assign rfl rfl) ?_
 refine aw_nil ?_
 refine ac_pub (L2 := _) 0 [2] rfl (allAre1 rfl) (by rw [List.length_map]) (by rw [List.length_map]; omega) rfl ?_
 refine ac_ret ?_
 exact ⟨_, [], _, rvs_1 Tryz.results8 (rv_tmp rfl rfl), rfl, ⟨rfl, rfl⟩⟩
theorem insE_eq {O : List (Int × Int)} {z : List LV} {e : Int × Int} {k : Nat} (hk : k ≤ O.length) (hp : posE e O = k) (hne : ¬ O[k]? = some e) :
  ((O.map edL ++ [z]).take (0 + (k + 1)) ++ ((O.map edL ++ [z]).drop (0 + k)).take (O.length - k) ++ (O.map edL ++ [z]).drop (0 + (k + 1) + (O.length - k))).set (0 + k) (edL e) = (insE O e).map edL := by
 simp only [Nat.zero_add]
 rw [ins_copy (O.map edL) z (edL e) (by rw [List.length_map]; omega) (by rw [List.length_map])]
 rw [insE, hp, if_neg hne]
 simp [List.map_take, List.map_drop]
theorem insE_up {O : List (Int × Int)} {e : Int × Int} {k : Nat} (hk : k ≤ O.length) (hp : posE e O = k) (hne : ¬ O[k]? = some e) : (insE O e).length = O.length + 1 := by
 rw [insE, hp, if_neg hne]
 simp only [List.length_append, List.length_take, List.length_cons, List.length_drop]
 omega
theorem insE_w {O : List (Int × Int)} {z : List LV} (hz : z.length = 2) {a b m e : Nat} : ∀ c ∈ ((O.map edL ++ [z]).take a ++ ((O.map edL ++ [z]).drop b).take m ++ (O.map edL ++ [z]).drop e), c.length = 2 := by
 intro c hc
 have h1 : c ∈ O.map edL ++ [z] := by
  rcases List.mem_append.1 hc with hc | hc
  ·rcases List.mem_append.1 hc with hc | hc
   ·exact List.mem_of_mem_take hc
   ·exact List.mem_of_mem_drop (List.mem_of_mem_take hc)
  ·exact List.mem_of_mem_drop hc
 rcases List.mem_append.1 h1 with h1 | h1
 ·obtain ⟨x, _, rfl⟩ := List.mem_map.1 h1; rfl
 rw [List.mem_singleton.1 h1]; exact hz
theorem twoL {ls : List (List LV)} (h : ∀ c ∈ ls, c.length = 2) {k : Nat} (hk : k < ls.length) : ∃ a0 a1, ls[k]? = some [a0, a1] := by
 have h1 := h ls[k] (List.getElem_mem hk)
 rw [List.getElem?_eq_getElem hk]
 match hl : ls[k], h1 with
 | [a0, a1], _ => exact ⟨a0, a1, rfl⟩
theorem pair_ne {O : List (Int × Int)} {k : Nat} {x e : Int × Int} (hx : O[k]? = some x) (h : ¬ O[k]? = some e) : ¬ ([x.1, x.2] = [e.1, e.2]) := by
 intro he
 injection he with h1 h2
 injection h2 with h2 _
 exact h (by rw [hx]; exact congrArg some (Prod.ext h1 h2))
set_option maxRecDepth 20000 in
set_option maxHeartbeats 2000000 in
theorem d_mesh_Edges {g : Nat} {c0 c1 c2 c3 c4 c5 c6 c7 c8 c9 c10 c11 y0 : LV} {ts : List P3} (hn : ts.length ≤ 1000) : DoesB Tryz.prog 9 [.one (.ow g 0)] [.blk g 54 [c0, c1, c2, c3, c4, c5, c6, c7, c8, c9, c10, c11, y0, tris ts]] fun r B => r = .one (eds ((edgesOf ts))) ∧ B = [.blk g 54 [c0, c1, c2, c3, c4, c5, c6, c7, c8, c9, c10, c11, y0, tris ts]] := by
 refine does_ (n := 104) Tryz.func9 rfl Tryz.ntmps9 rfl ?_
 refine ac_seq (ac_reg ?_)
 refine w_ (p_assign rfl rfl) ?_
 refine aw_nil ?_
 refine ac_seq (ac_reg ?_)
 refine w_ (p_assign rfl rfl) ?_
 refine aw_nil ?_
 refine ac_seq (ac_seq (ac_reg ?_))
 refine w_ (p_move rfl rfl) ?_
 refine w_ (p_nilCheck rfl rfl rfl) ?_
 refine w_ (p_fieldOw fa_54_2 rfl rfl) ?_
 refine w_ (p_loadOw 0 Tryz.isAgg52 Tryz.sizeOf52 rfl rfl rfl rfl rfl) ?_
 refine w_ (p_len (m := ts.length) Tryz.runUnderlying52 rfl (rlen_tris _) rfl) ?_
 refine w_ (p_move rfl rfl) ?_
 refine aw_nil ?_
 refine ac_block ?_
 refine ac_ownNil [3] 23 2 rfl (allAre1 rfl) rfl ?_
 refine ac_pick [3, 12, 13, 14] rfl ?_
 refine ac_loop (fun m L B => ∃ i r O, i ≤ ts.length ∧ O = edgesOf (ts.take i) ∧ O.length ≤ 3 * i ∧ m = ts.length - i ∧ L = [(3, .one (.orow r 2 0 O.length)), (12, .one (tris ts)), (13, .one (.int .i64 (((ts.length : Nat) : Int)))), (14, .one (.int .i64 (((i : Nat) : Int))))] ∧ B = [.row r 23 2 (O.map edL), .blk g 54 [c0, c1, c2, c3, c4, c5, c6, c7, c8, c9, c10, c11, y0, tris ts]]) (m := _) ⟨0, none, [], Nat.zero_le _, rfl, Nat.zero_le _, rfl, rfl, rfl⟩ ?_
 rintro m L B ⟨i, r, O, hp0, hp1, hp2, hm, rfl, rfl⟩
 by_cases hlt : i < ts.length
 ·obtain ⟨m_, hm_⟩ : ∃ m_, ts[i]? = some m_ := ⟨_, List.getElem?_eq_getElem hlt⟩
  have hbO : O.length ≤ 5000 := by omega
  have hlO := hp2
  have hiO := hp1
  refine ac_seq (ac_reg ?_)
  refine w_ (p_cmp rfl rfl rfl rfl) ?_
  refine aw_nil ?_
  refine ac_seq ?_
  refine ac_t rfl (decide_eq_true (by omega)) ?_
  refine ac_skip ?_
  refine ac_seq (ac_block (ac_seq (ac_reg ?_)))
  refine w_ (p_index (i) Tryz.runUnderlying52 Tryz.sizeOf78 rfl rfl (rfl) (map_get hm_) rfl rfl) ?_
  refine w_ (p_loadSh Tryz.isAgg78 Tryz.sizeOf78 rfl rfl rfl rfl) ?_
  refine a_alloc Tryz.zeroValue78 rfl rfl fun g1 => ?_
  refine a_storeOw 0 Tryz.sizeOf78 rfl rfl rfl rfl rfl rfl rfl ?_
  refine aw_nil ?_
  refine ac_seq (ac_reg ?_)
  refine w_ (p_indexArrOw 0 Tryz.runUnderlying78 Tryz.sizeOf3 rfl rfl rfl (by decide) rfl) ?_
  refine w_ (p_loadOw 0 Tryz.isAgg3 Tryz.sizeOf3 rfl rfl rfl rfl rfl) ?_
  refine w_ (p_indexArrOw 1 Tryz.runUnderlying78 Tryz.sizeOf3 rfl rfl rfl (by decide) rfl) ?_
  refine w_ (p_loadOw 0 Tryz.isAgg3 Tryz.sizeOf3 rfl rfl rfl rfl rfl) ?_
  refine w_ (p_build (bd_23) rfl rfl rfl rfl) ?_
  refine w_ (p_indexArrOw 0 Tryz.runUnderlying78 Tryz.sizeOf3 rfl rfl rfl (by decide) rfl) ?_
  refine w_ (p_loadOw 0 Tryz.isAgg3 Tryz.sizeOf3 rfl rfl rfl rfl rfl) ?_
  refine w_ (p_indexArrOw 2 Tryz.runUnderlying78 Tryz.sizeOf3 rfl rfl rfl (by decide) rfl) ?_
  refine w_ (p_loadOw 0 Tryz.isAgg3 Tryz.sizeOf3 rfl rfl rfl rfl rfl) ?_
  refine w_ (p_build (bd_23) rfl rfl rfl rfl) ?_
  refine w_ (p_indexArrOw 1 Tryz.runUnderlying78 Tryz.sizeOf3 rfl rfl rfl (by decide) rfl) ?_
  refine w_ (p_loadOw 0 Tryz.isAgg3 Tryz.sizeOf3 rfl rfl rfl rfl rfl) ?_
  refine w_ (p_indexArrOw 2 Tryz.runUnderlying78 Tryz.sizeOf3 rfl rfl rfl (by decide) rfl) ?_
  refine w_ (p_loadOw 0 Tryz.isAgg3 Tryz.sizeOf3 rfl rfl rfl rfl rfl) ?_
  refine w_ (p_build (bd_23) rfl rfl rfl rfl) ?_
  refine w_ (p_build (bd_79) rfl rfl rfl rfl) ?_
  refine w_ (p_move rfl rfl) ?_
  refine aw_nil ?_
  refine ac_block ?_
  refine ac_rounds 4 ?_
  refine ac_round ?_
  refine ac_seq (ac_reg ?_)
  refine w_ (p_cmp (b := true) rfl rfl rfl rfl) ?_
  refine aw_nil ?_
  refine ac_seq ?_
  refine ac_t rfl (rfl) ?_
  refine ac_skip ?_
  refine ac_cut (fun L B => ∃ q3 O2, O2 = insE O (m_.1.id, m_.2.1.id) ∧ O2.length ≤ O.length + 1 ∧ L = [(12, .one (tris ts)), (13, .one (.int .i64 (((ts.length : Nat) : Int)))), (14, .one (.int .i64 (((i : Nat) : Int)))), (33, .agg [.int .i64 m_.1.id, .int .i64 m_.2.1.id, .int .i64 m_.1.id, .int .i64 m_.2.2.id, .int .i64 m_.2.1.id, .int .i64 m_.2.2.id]), (34, .one (.int .i64 0)), (3, .one (.orow q3 2 0 O2.length))] ∧ B = [.row q3 23 2 (O2.map edL), .blk g 54 [c0, c1, c2, c3, c4, c5, c6, c7, c8, c9, c10, c11, y0, tris ts]]) ?_ ?_
  ·skip
   refine ac_block (ac_seq (ac_reg ?_))
   refine w_ (p_indexVA 0 Tryz.runUnderlying79 Tryz.sizeOf23 Tryz.isAgg23 rfl rfl rfl (by decide) rfl rfl) ?_
   refine a_alloc Tryz.zeroValue23 rfl rfl fun g4 => ?_
   refine a_storeOw 0 Tryz.sizeOf23 rfl rfl rfl rfl rfl rfl rfl ?_
   refine aw_nil ?_
   refine ac_seq (ac_reg ?_)
   refine w_ (p_assign rfl rfl) ?_
   refine aw_nil ?_
   refine ac_cut (fun L B => ∃ k, k ≤ O.length ∧ posE (m_.1.id, m_.2.1.id) O = k ∧ L = [(3, .one (.orow r 2 0 O.length)), (7, .one (.ow g4 0)), (12, .one (tris ts)), (13, .one (.int .i64 (((ts.length : Nat) : Int)))), (14, .one (.int .i64 (((i : Nat) : Int)))), (33, .agg [.int .i64 m_.1.id, .int .i64 m_.2.1.id, .int .i64 m_.1.id, .int .i64 m_.2.2.id, .int .i64 m_.2.1.id, .int .i64 m_.2.2.id]), (34, .one (.int .i64 0)), (8, .one (.int .i64 (((k : Nat) : Int))))] ∧ B = [.blk g4 23 [.int .i64 m_.1.id, .int .i64 m_.2.1.id], .row r 23 2 (O.map edL), .blk g 54 [c0, c1, c2, c3, c4, c5, c6, c7, c8, c9, c10, c11, y0, tris ts]]) ?_ ?_
   ·skip
    refine ac_block ?_
    refine ac_pick [3, 7, 12, 13, 14, 33, 34, 8] rfl ?_
    refine ac_drop 1 rfl ?_
    refine ac_loop (fun m L B => ∃ k, k ≤ O.length ∧ posE (m_.1.id, m_.2.1.id) O = k + posE (m_.1.id, m_.2.1.id) (O.drop k) ∧ m = O.length - k ∧ L = [(3, .one (.orow r 2 0 O.length)), (7, .one (.ow g4 0)), (12, .one (tris ts)), (13, .one (.int .i64 (((ts.length : Nat) : Int)))), (14, .one (.int .i64 (((i : Nat) : Int)))), (33, .agg [.int .i64 m_.1.id, .int .i64 m_.2.1.id, .int .i64 m_.1.id, .int .i64 m_.2.2.id, .int .i64 m_.2.1.id, .int .i64 m_.2.2.id]), (34, .one (.int .i64 0)), (8, .one (.int .i64 (((k : Nat) : Int))))] ∧ B = [.blk g4 23 [.int .i64 m_.1.id, .int .i64 m_.2.1.id], .row r 23 2 (O.map edL), .blk g 54 [c0, c1, c2, c3, c4, c5, c6, c7, c8, c9, c10, c11, y0, tris ts]]) (m := _) ⟨0, Nat.zero_le _, by rw [Nat.zero_add, List.drop_zero], rfl, rfl, rfl⟩ ?_
    rintro m L B ⟨k, hq0, hq1, hm, rfl, rfl⟩
    by_cases h6 : k < O.length
    ·obtain ⟨x, hx⟩ : ∃ x, O[k]? = some x := ⟨_, List.getElem?_eq_getElem h6⟩
     by_cases h8 : x.1 < m_.1.id
     ·have hls : lessE x (m_.1.id, m_.2.1.id) = true := by simp [lessE, h8]
      refine ac_seq (ac_seq ?_)
      refine ac_draw mixed_ 30 [37, 38, 39, 40, 41, 42, 43, 44, 45, 46, 47, 48, 49, 50, 51, 52, 53, 54, 55, 56, 57, 58, 59, 60, 61, 62, 63, 64, 65, 66] [[], [], [1], [0, 2], [3], [4], [4], [4, 5, 6], [4, 7], [4, 8], [4], [4, 10], [4, 9, 11], [4, 12], [13], [13], [13, 14, 15], [13, 16], [13, 17], [13], [13, 19], [13, 18, 20], [13, 21], [22], [22], [22, 23, 24], [22, 25], [22, 26], [22], [22, 28]] [.one (.int .i64 (((k : Nat) : Int))), .one (.orow r 2 0 O.length), .one (.int .i64 (((O.length : Nat) : Int))), .one (.bool ((decide ((((k : Nat) : Int)) < (((O.length : Nat) : Int)))))), .one (.bool ((decide ((((k : Nat) : Int)) < (((O.length : Nat) : Int)))))), .one (.orow r 2 0 O.length), .one (.int .i64 (((k : Nat) : Int))), .one (.oel r 2 ((0 + k)) 0), .one (.oel r 2 ((0 + k)) 0), .one (.int .i64 x.1), .one (.ow g4 0), .one (.int .i64 m_.1.id), .one (.bool ((decide (x.1 < m_.1.id)))), .one (.bool ((decide (x.1 < m_.1.id)))), .tup [], .tup [], .tup [], .tup [], .tup [], .tup [], .tup [], .tup [], .tup [], .tup [], .tup [], .tup [], .tup [], .tup [], .tup [], .tup []] rfl rfl rfl ⟨p_move rfl rfl, p_move rfl rfl, p_len (m := O.length) Tryz.runUnderlying24 rfl (rfl) rfl, p_cmp rfl rfl rfl rfl, p_move rfl rfl, (p_grun rfl rfl (decide_eq_true (by omega)) (p_move rfl rfl)), (p_grun rfl rfl (decide_eq_true (by omega)) (p_move rfl rfl)), (p_grun rfl rfl (decide_eq_true (by omega)) (p_indexO (k) Tryz.runUnderlying24 Tryz.sizeOf23 rfl rfl (rfl) (by omega) rfl)), (p_grun rfl rfl (decide_eq_true (by omega)) (p_indexArrO 0 Tryz.runUnderlying23 Tryz.sizeOf3 rfl rfl rfl (by decide) rfl)), (p_grun rfl rfl (decide_eq_true (by omega)) (p_loadO 1 Tryz.isAgg3 Tryz.sizeOf3 rfl rfl (by rw [Nat.zero_add]; exact map_get hx) rfl rfl rfl)), (p_grun rfl rfl (decide_eq_true (by omega)) (p_indexArrOw 0 Tryz.runUnderlying23 Tryz.sizeOf3 rfl rfl rfl (by decide) rfl)), (p_grun rfl rfl (decide_eq_true (by omega)) (p_loadOw 0 Tryz.isAgg3 Tryz.sizeOf3 rfl rfl rfl rfl rfl)), (p_grun rfl rfl (decide_eq_true (by omega)) (p_cmp rfl rfl rfl rfl)), (p_grun rfl rfl (decide_eq_true (by omega)) (p_move rfl rfl)), p_gskipU rfl rfl (decide_eq_true h8) rfl, p_gskipU rfl rfl (decide_eq_true h8) rfl, p_gskipU rfl rfl (decide_eq_true h8) rfl, p_gskipU rfl rfl (decide_eq_true h8) rfl, p_gskipU rfl rfl (decide_eq_true h8) rfl, p_gskipU rfl rfl (decide_eq_true h8) rfl, p_gskipU rfl rfl (decide_eq_true h8) rfl, p_gskipU rfl rfl (decide_eq_true h8) rfl, p_gskipU rfl rfl (decide_eq_true h8) rfl, p_gskip2 rfl rfl rfl, p_gskip2 rfl rfl rfl, p_gskip2 rfl rfl rfl, p_gskip2 rfl rfl rfl, p_gskip2 rfl rfl rfl, p_gskip2 rfl rfl rfl, p_gskip2 rfl rfl rfl, trivial⟩ rfl ?_
      refine w_ (p_gskip2 rfl rfl rfl) ?_
      refine w_ (p_gskipU rfl rfl (decide_eq_true h8) rfl) ?_
      refine w_ ((p_grun rfl rfl (decide_eq_true (by omega)) (p_pickT rfl (decide_eq_true h8) rfl rfl))) ?_
      refine w_ (p_pickT rfl (decide_eq_true (by omega)) rfl rfl) ?_
      refine aw_nil ?_
      refine ac_t rfl (rfl) ?_
      refine ac_skip ?_
      refine ac_block (ac_reg ?_)
      refine w_ (p_move rfl rfl) ?_
      refine w_ (p_add (r := ((k + 1 : Nat) : Int)) rfl rfl (i64_is (by omega) (by omega)) rfl) ?_
      refine w_ (p_assign rfl rfl) ?_
      refine aw_pick [3, 7, 12, 13, 14, 33, 34, 8] rfl ?_
      refine aw_nil ?_
      refine ⟨_, ?_, k + 1, by omega, by rw [hq1, posE_on hx hls]; omega, rfl, rfl, rfl⟩
      omega
     by_cases h9 : x.1 = m_.1.id
     ·by_cases h10 : x.2 < m_.2.1.id
      ·have hls : lessE x (m_.1.id, m_.2.1.id) = true := by simp [lessE, h8, h9, h10]
       refine ac_seq (ac_seq ?_)
       refine ac_draw mixed_ 30 [37, 38, 39, 40, 41, 42, 43, 44, 45, 46, 47, 48, 49, 50, 51, 52, 53, 54, 55, 56, 57, 58, 59, 60, 61, 62, 63, 64, 65, 66] [[], [], [1], [0, 2], [3], [4], [4], [4, 5, 6], [4, 7], [4, 8], [4], [4, 10], [4, 9, 11], [4, 12], [13], [13], [13, 14, 15], [13, 16], [13, 17], [13], [13, 19], [13, 18, 20], [13, 21], [22], [22], [22, 23, 24], [22, 25], [22, 26], [22], [22, 28]] [.one (.int .i64 (((k : Nat) : Int))), .one (.orow r 2 0 O.length), .one (.int .i64 (((O.length : Nat) : Int))), .one (.bool ((decide ((((k : Nat) : Int)) < (((O.length : Nat) : Int)))))), .one (.bool ((decide ((((k : Nat) : Int)) < (((O.length : Nat) : Int)))))), .one (.orow r 2 0 O.length), .one (.int .i64 (((k : Nat) : Int))), .one (.oel r 2 ((0 + k)) 0), .one (.oel r 2 ((0 + k)) 0), .one (.int .i64 x.1), .one (.ow g4 0), .one (.int .i64 m_.1.id), .one (.bool ((decide (x.1 < m_.1.id)))), .one (.bool ((decide (x.1 < m_.1.id)))), .one (.orow r 2 0 O.length), .one (.int .i64 (((k : Nat) : Int))), .one (.oel r 2 ((0 + k)) 0), .one (.oel r 2 ((0 + k)) 0), .one (.int .i64 x.1), .one (.ow g4 0), .one (.int .i64 m_.1.id), .one (.bool ((decide (x.1 = m_.1.id)))), .one (.bool ((decide (x.1 = m_.1.id)))), .one (.orow r 2 0 O.length), .one (.int .i64 (((k : Nat) : Int))), .one (.oel r 2 ((0 + k)) 0), .one (.oel r 2 ((0 + k)) 1), .one (.int .i64 x.2), .one (.ow g4 1), .one (.int .i64 m_.2.1.id)] rfl rfl rfl ⟨p_move rfl rfl, p_move rfl rfl, p_len (m := O.length) Tryz.runUnderlying24 rfl (rfl) rfl, p_cmp rfl rfl rfl rfl, p_move rfl rfl, (p_grun rfl rfl (decide_eq_true (by omega)) (p_move rfl rfl)), (p_grun rfl rfl (decide_eq_true (by omega)) (p_move rfl rfl)), (p_grun rfl rfl (decide_eq_true (by omega)) (p_indexO (k) Tryz.runUnderlying24 Tryz.sizeOf23 rfl rfl (rfl) (by omega) rfl)), (p_grun rfl rfl (decide_eq_true (by omega)) (p_indexArrO 0 Tryz.runUnderlying23 Tryz.sizeOf3 rfl rfl rfl (by decide) rfl)), (p_grun rfl rfl (decide_eq_true (by omega)) (p_loadO 1 Tryz.isAgg3 Tryz.sizeOf3 rfl rfl (by rw [Nat.zero_add]; exact map_get hx) rfl rfl rfl)), (p_grun rfl rfl (decide_eq_true (by omega)) (p_indexArrOw 0 Tryz.runUnderlying23 Tryz.sizeOf3 rfl rfl rfl (by decide) rfl)), (p_grun rfl rfl (decide_eq_true (by omega)) (p_loadOw 0 Tryz.isAgg3 Tryz.sizeOf3 rfl rfl rfl rfl rfl)), (p_grun rfl rfl (decide_eq_true (by omega)) (p_cmp rfl rfl rfl rfl)), (p_grun rfl rfl (decide_eq_true (by omega)) (p_move rfl rfl)), (p_grun rfl rfl (decide_eq_false h8) (p_move rfl rfl)), (p_grun rfl rfl (decide_eq_false h8) (p_move rfl rfl)), (p_grun rfl rfl (decide_eq_false h8) (p_indexO (k) Tryz.runUnderlying24 Tryz.sizeOf23 rfl rfl (rfl) (by omega) rfl)), (p_grun rfl rfl (decide_eq_false h8) (p_indexArrO 0 Tryz.runUnderlying23 Tryz.sizeOf3 rfl rfl rfl (by decide) rfl)), (p_grun rfl rfl (decide_eq_false h8) (p_loadO 1 Tryz.isAgg3 Tryz.sizeOf3 rfl rfl (by rw [Nat.zero_add]; exact map_get hx) rfl rfl rfl)), (p_grun rfl rfl (decide_eq_false h8) (p_indexArrOw 0 Tryz.runUnderlying23 Tryz.sizeOf3 rfl rfl rfl (by decide) rfl)), (p_grun rfl rfl (decide_eq_false h8) (p_loadOw 0 Tryz.isAgg3 Tryz.sizeOf3 rfl rfl rfl rfl rfl)), (p_grun rfl rfl (decide_eq_false h8) (p_cmp rfl rfl rfl rfl)), (p_grun rfl rfl (decide_eq_false h8) (p_move rfl rfl)), (p_grun rfl rfl (decide_eq_true h9) (p_move rfl rfl)), (p_grun rfl rfl (decide_eq_true h9) (p_move rfl rfl)), (p_grun rfl rfl (decide_eq_true h9) (p_indexO (k) Tryz.runUnderlying24 Tryz.sizeOf23 rfl rfl (rfl) (by omega) rfl)), (p_grun rfl rfl (decide_eq_true h9) (p_indexArrO 1 Tryz.runUnderlying23 Tryz.sizeOf3 rfl rfl rfl (by decide) rfl)), (p_grun rfl rfl (decide_eq_true h9) (p_loadO 1 Tryz.isAgg3 Tryz.sizeOf3 rfl rfl (by rw [Nat.zero_add]; exact map_get hx) rfl rfl rfl)), (p_grun rfl rfl (decide_eq_true h9) (p_indexArrOw 1 Tryz.runUnderlying23 Tryz.sizeOf3 rfl rfl rfl (by decide) rfl)), (p_grun rfl rfl (decide_eq_true h9) (p_loadOw 0 Tryz.isAgg3 Tryz.sizeOf3 rfl rfl rfl rfl rfl)), trivial⟩ rfl ?_
       refine w_ ((p_grun rfl rfl (decide_eq_true h9) (p_cmp rfl rfl rfl rfl))) ?_
       refine w_ ((p_grun rfl rfl (decide_eq_false h8) (p_pickT rfl (decide_eq_true h9) rfl rfl))) ?_
       refine w_ ((p_grun rfl rfl (decide_eq_true (by omega)) (p_pickF rfl (decide_eq_false h8) rfl rfl))) ?_
       refine w_ (p_pickT rfl (decide_eq_true (by omega)) rfl rfl) ?_
       refine aw_nil ?_
       refine ac_t rfl (decide_eq_true h10) ?_
       refine ac_skip ?_
       refine ac_block (ac_reg ?_)
       refine w_ (p_move rfl rfl) ?_
       refine w_ (p_add (r := ((k + 1 : Nat) : Int)) rfl rfl (i64_is (by omega) (by omega)) rfl) ?_
       refine w_ (p_assign rfl rfl) ?_
       refine aw_pick [3, 7, 12, 13, 14, 33, 34, 8] rfl ?_
       refine aw_nil ?_
       refine ⟨_, ?_, k + 1, by omega, by rw [hq1, posE_on hx hls]; omega, rfl, rfl, rfl⟩
       omega
      have hls : lessE x (m_.1.id, m_.2.1.id) = false := by simp [lessE, h8, h9, h10]
      have hpE : posE (m_.1.id, m_.2.1.id) O = k := by rw [hq1, posE_off hx hls]; rfl
      refine ac_seq (ac_seq ?_)
      refine ac_draw mixed_ 30 [37, 38, 39, 40, 41, 42, 43, 44, 45, 46, 47, 48, 49, 50, 51, 52, 53, 54, 55, 56, 57, 58, 59, 60, 61, 62, 63, 64, 65, 66] [[], [], [1], [0, 2], [3], [4], [4], [4, 5, 6], [4, 7], [4, 8], [4], [4, 10], [4, 9, 11], [4, 12], [13], [13], [13, 14, 15], [13, 16], [13, 17], [13], [13, 19], [13, 18, 20], [13, 21], [22], [22], [22, 23, 24], [22, 25], [22, 26], [22], [22, 28]] [.one (.int .i64 (((k : Nat) : Int))), .one (.orow r 2 0 O.length), .one (.int .i64 (((O.length : Nat) : Int))), .one (.bool ((decide ((((k : Nat) : Int)) < (((O.length : Nat) : Int)))))), .one (.bool ((decide ((((k : Nat) : Int)) < (((O.length : Nat) : Int)))))), .one (.orow r 2 0 O.length), .one (.int .i64 (((k : Nat) : Int))), .one (.oel r 2 ((0 + k)) 0), .one (.oel r 2 ((0 + k)) 0), .one (.int .i64 x.1), .one (.ow g4 0), .one (.int .i64 m_.1.id), .one (.bool ((decide (x.1 < m_.1.id)))), .one (.bool ((decide (x.1 < m_.1.id)))), .one (.orow r 2 0 O.length), .one (.int .i64 (((k : Nat) : Int))), .one (.oel r 2 ((0 + k)) 0), .one (.oel r 2 ((0 + k)) 0), .one (.int .i64 x.1), .one (.ow g4 0), .one (.int .i64 m_.1.id), .one (.bool ((decide (x.1 = m_.1.id)))), .one (.bool ((decide (x.1 = m_.1.id)))), .one (.orow r 2 0 O.length), .one (.int .i64 (((k : Nat) : Int))), .one (.oel r 2 ((0 + k)) 0), .one (.oel r 2 ((0 + k)) 1), .one (.int .i64 x.2), .one (.ow g4 1), .one (.int .i64 m_.2.1.id)] rfl rfl rfl ⟨p_move rfl rfl, p_move rfl rfl, p_len (m := O.length) Tryz.runUnderlying24 rfl (rfl) rfl, p_cmp rfl rfl rfl rfl, p_move rfl rfl, (p_grun rfl rfl (decide_eq_true (by omega)) (p_move rfl rfl)), (p_grun rfl rfl (decide_eq_true (by omega)) (p_move rfl rfl)), (p_grun rfl rfl (decide_eq_true (by omega)) (p_indexO (k) Tryz.runUnderlying24 Tryz.sizeOf23 rfl rfl (rfl) (by omega) rfl)), (p_grun rfl rfl (decide_eq_true (by omega)) (p_indexArrO 0 Tryz.runUnderlying23 Tryz.sizeOf3 rfl rfl rfl (by decide) rfl)), (p_grun rfl rfl (decide_eq_true (by omega)) (p_loadO 1 Tryz.isAgg3 Tryz.sizeOf3 rfl rfl (by rw [Nat.zero_add]; exact map_get hx) rfl rfl rfl)), (p_grun rfl rfl (decide_eq_true (by omega)) (p_indexArrOw 0 Tryz.runUnderlying23 Tryz.sizeOf3 rfl rfl rfl (by decide) rfl)), (p_grun rfl rfl (decide_eq_true (by omega)) (p_loadOw 0 Tryz.isAgg3 Tryz.sizeOf3 rfl rfl rfl rfl rfl)), (p_grun rfl rfl (decide_eq_true (by omega)) (p_cmp rfl rfl rfl rfl)), (p_grun rfl rfl (decide_eq_true (by omega)) (p_move rfl rfl)), (p_grun rfl rfl (decide_eq_false h8) (p_move rfl rfl)), (p_grun rfl rfl (decide_eq_false h8) (p_move rfl rfl)), (p_grun rfl rfl (decide_eq_false h8) (p_indexO (k) Tryz.runUnderlying24 Tryz.sizeOf23 rfl rfl (rfl) (by omega) rfl)), (p_grun rfl rfl (decide_eq_false h8) (p_indexArrO 0 Tryz.runUnderlying23 Tryz.sizeOf3 rfl rfl rfl (by decide) rfl)), (p_grun rfl rfl (decide_eq_false h8) (p_loadO 1 Tryz.isAgg3 Tryz.sizeOf3 rfl rfl (by rw [Nat.zero_add]; exact map_get hx) rfl rfl rfl)), (p_grun rfl rfl (decide_eq_false h8) (p_indexArrOw 0 Tryz.runUnderlying23 Tryz.sizeOf3 rfl rfl rfl (by decide) rfl)), (p_grun rfl rfl (decide_eq_false h8) (p_loadOw 0 Tryz.isAgg3 Tryz.sizeOf3 rfl rfl rfl rfl rfl)), (p_grun rfl rfl (decide_eq_false h8) (p_cmp rfl rfl rfl rfl)), (p_grun rfl rfl (decide_eq_false h8) (p_move rfl rfl)), (p_grun rfl rfl (decide_eq_true h9) (p_move rfl rfl)), (p_grun rfl rfl (decide_eq_true h9) (p_move rfl rfl)), (p_grun rfl rfl (decide_eq_true h9) (p_indexO (k) Tryz.runUnderlying24 Tryz.sizeOf23 rfl rfl (rfl) (by omega) rfl)), (p_grun rfl rfl (decide_eq_true h9) (p_indexArrO 1 Tryz.runUnderlying23 Tryz.sizeOf3 rfl rfl rfl (by decide) rfl)), (p_grun rfl rfl (decide_eq_true h9) (p_loadO 1 Tryz.isAgg3 Tryz.sizeOf3 rfl rfl (by rw [Nat.zero_add]; exact map_get hx) rfl rfl rfl)), (p_grun rfl rfl (decide_eq_true h9) (p_indexArrOw 1 Tryz.runUnderlying23 Tryz.sizeOf3 rfl rfl rfl (by decide) rfl)), (p_grun rfl rfl (decide_eq_true h9) (p_loadOw 0 Tryz.isAgg3 Tryz.sizeOf3 rfl rfl rfl rfl rfl)), trivial⟩ rfl ?_
      refine w_ ((p_grun rfl rfl (decide_eq_true h9) (p_cmp rfl rfl rfl rfl))) ?_
      refine w_ ((p_grun rfl rfl (decide_eq_false h8) (p_pickT rfl (decide_eq_true h9) rfl rfl))) ?_
      refine w_ ((p_grun rfl rfl (decide_eq_true (by omega)) (p_pickF rfl (decide_eq_false h8) rfl rfl))) ?_
      refine w_ (p_pickT rfl (decide_eq_true (by omega)) rfl rfl) ?_
      refine aw_nil ?_
      refine ac_f rfl (decide_eq_false h10) ?_
      refine ac_pick [3, 7, 12, 13, 14, 33, 34, 8] rfl ?_
      refine ac_exit ?_
      repeat refine seqQ_exit ?_
      refine blkQ_here ?_
      exact ⟨k, hq0, hpE, rfl, rfl⟩
     have hls : lessE x (m_.1.id, m_.2.1.id) = false := by simp [lessE, h8, h9]
     have hpE : posE (m_.1.id, m_.2.1.id) O = k := by rw [hq1, posE_off hx hls]; rfl
     refine ac_seq (ac_seq ?_)
     refine ac_draw mixed_ 30 [37, 38, 39, 40, 41, 42, 43, 44, 45, 46, 47, 48, 49, 50, 51, 52, 53, 54, 55, 56, 57, 58, 59, 60, 61, 62, 63, 64, 65, 66] [[], [], [1], [0, 2], [3], [4], [4], [4, 5, 6], [4, 7], [4, 8], [4], [4, 10], [4, 9, 11], [4, 12], [13], [13], [13, 14, 15], [13, 16], [13, 17], [13], [13, 19], [13, 18, 20], [13, 21], [22], [22], [22, 23, 24], [22, 25], [22, 26], [22], [22, 28]] [.one (.int .i64 (((k : Nat) : Int))), .one (.orow r 2 0 O.length), .one (.int .i64 (((O.length : Nat) : Int))), .one (.bool ((decide ((((k : Nat) : Int)) < (((O.length : Nat) : Int)))))), .one (.bool ((decide ((((k : Nat) : Int)) < (((O.length : Nat) : Int)))))), .one (.orow r 2 0 O.length), .one (.int .i64 (((k : Nat) : Int))), .one (.oel r 2 ((0 + k)) 0), .one (.oel r 2 ((0 + k)) 0), .one (.int .i64 x.1), .one (.ow g4 0), .one (.int .i64 m_.1.id), .one (.bool ((decide (x.1 < m_.1.id)))), .one (.bool ((decide (x.1 < m_.1.id)))), .one (.orow r 2 0 O.length), .one (.int .i64 (((k : Nat) : Int))), .one (.oel r 2 ((0 + k)) 0), .one (.oel r 2 ((0 + k)) 0), .one (.int .i64 x.1), .one (.ow g4 0), .one (.int .i64 m_.1.id), .one (.bool ((decide (x.1 = m_.1.id)))), .one (.bool ((decide (x.1 = m_.1.id)))), .tup [], .tup [], .tup [], .tup [], .tup [], .tup [], .tup []] rfl rfl rfl ⟨p_move rfl rfl, p_move rfl rfl, p_len (m := O.length) Tryz.runUnderlying24 rfl (rfl) rfl, p_cmp rfl rfl rfl rfl, p_move rfl rfl, (p_grun rfl rfl (decide_eq_true (by omega)) (p_move rfl rfl)), (p_grun rfl rfl (decide_eq_true (by omega)) (p_move rfl rfl)), (p_grun rfl rfl (decide_eq_true (by omega)) (p_indexO (k) Tryz.runUnderlying24 Tryz.sizeOf23 rfl rfl (rfl) (by omega) rfl)), (p_grun rfl rfl (decide_eq_true (by omega)) (p_indexArrO 0 Tryz.runUnderlying23 Tryz.sizeOf3 rfl rfl rfl (by decide) rfl)), (p_grun rfl rfl (decide_eq_true (by omega)) (p_loadO 1 Tryz.isAgg3 Tryz.sizeOf3 rfl rfl (by rw [Nat.zero_add]; exact map_get hx) rfl rfl rfl)), (p_grun rfl rfl (decide_eq_true (by omega)) (p_indexArrOw 0 Tryz.runUnderlying23 Tryz.sizeOf3 rfl rfl rfl (by decide) rfl)), (p_grun rfl rfl (decide_eq_true (by omega)) (p_loadOw 0 Tryz.isAgg3 Tryz.sizeOf3 rfl rfl rfl rfl rfl)), (p_grun rfl rfl (decide_eq_true (by omega)) (p_cmp rfl rfl rfl rfl)), (p_grun rfl rfl (decide_eq_true (by omega)) (p_move rfl rfl)), (p_grun rfl rfl (decide_eq_false h8) (p_move rfl rfl)), (p_grun rfl rfl (decide_eq_false h8) (p_move rfl rfl)), (p_grun rfl rfl (decide_eq_false h8) (p_indexO (k) Tryz.runUnderlying24 Tryz.sizeOf23 rfl rfl (rfl) (by omega) rfl)), (p_grun rfl rfl (decide_eq_false h8) (p_indexArrO 0 Tryz.runUnderlying23 Tryz.sizeOf3 rfl rfl rfl (by decide) rfl)), (p_grun rfl rfl (decide_eq_false h8) (p_loadO 1 Tryz.isAgg3 Tryz.sizeOf3 rfl rfl (by rw [Nat.zero_add]; exact map_get hx) rfl rfl rfl)), (p_grun rfl rfl (decide_eq_false h8) (p_indexArrOw 0 Tryz.runUnderlying23 Tryz.sizeOf3 rfl rfl rfl (by decide) rfl)), (p_grun rfl rfl (decide_eq_false h8) (p_loadOw 0 Tryz.isAgg3 Tryz.sizeOf3 rfl rfl rfl rfl rfl)), (p_grun rfl rfl (decide_eq_false h8) (p_cmp rfl rfl rfl rfl)), (p_grun rfl rfl (decide_eq_false h8) (p_move rfl rfl)), p_gskipU rfl rfl (decide_eq_false h9) rfl, p_gskipU rfl rfl (decide_eq_false h9) rfl, p_gskipU rfl rfl (decide_eq_false h9) rfl, p_gskipU rfl rfl (decide_eq_false h9) rfl, p_gskipU rfl rfl (decide_eq_false h9) rfl, p_gskipU rfl rfl (decide_eq_false h9) rfl, p_gskipU rfl rfl (decide_eq_false h9) rfl, trivial⟩ rfl ?_
     refine w_ (p_gskipU rfl rfl (decide_eq_false h9) rfl) ?_
     refine w_ ((p_grun rfl rfl (decide_eq_false h8) (p_pickF rfl (decide_eq_false h9) rfl rfl))) ?_
     refine w_ ((p_grun rfl rfl (decide_eq_true (by omega)) (p_pickF rfl (decide_eq_false h8) rfl rfl))) ?_
     refine w_ (p_pickT rfl (decide_eq_true (by omega)) rfl rfl) ?_
     refine aw_nil ?_
     refine ac_f rfl (rfl) ?_
     refine ac_pick [3, 7, 12, 13, 14, 33, 34, 8] rfl ?_
     refine ac_exit ?_
     repeat refine seqQ_exit ?_
     refine blkQ_here ?_
     exact ⟨k, hq0, hpE, rfl, rfl⟩
    have hpE : posE (m_.1.id, m_.2.1.id) O = k := by rw [hq1, posE_end h6]; rfl
    refine ac_seq (ac_seq ?_)
    refine ac_draw mixed_ 30 [37, 38, 39, 40, 41, 42, 43, 44, 45, 46, 47, 48, 49, 50, 51, 52, 53, 54, 55, 56, 57, 58, 59, 60, 61, 62, 63, 64, 65, 66] [[], [], [1], [0, 2], [3], [4], [4], [4, 5, 6], [4, 7], [4, 8], [4], [4, 10], [4, 9, 11], [4, 12], [13], [13], [13, 14, 15], [13, 16], [13, 17], [13], [13, 19], [13, 18, 20], [13, 21], [22], [22], [22, 23, 24], [22, 25], [22, 26], [22], [22, 28]] [.one (.int .i64 (((k : Nat) : Int))), .one (.orow r 2 0 O.length), .one (.int .i64 (((O.length : Nat) : Int))), .one (.bool ((decide ((((k : Nat) : Int)) < (((O.length : Nat) : Int)))))), .one (.bool ((decide ((((k : Nat) : Int)) < (((O.length : Nat) : Int)))))), .tup [], .tup [], .tup [], .tup [], .tup [], .tup [], .tup [], .tup [], .tup [], .tup [], .tup [], .tup [], .tup [], .tup [], .tup [], .tup [], .tup [], .tup [], .tup [], .tup [], .tup [], .tup [], .tup [], .tup [], .tup []] rfl rfl rfl ⟨p_move rfl rfl, p_move rfl rfl, p_len (m := O.length) Tryz.runUnderlying24 rfl (rfl) rfl, p_cmp rfl rfl rfl rfl, p_move rfl rfl, p_gskipU rfl rfl (decide_eq_false (by omega)) rfl, p_gskipU rfl rfl (decide_eq_false (by omega)) rfl, p_gskipU rfl rfl (decide_eq_false (by omega)) rfl, p_gskipU rfl rfl (decide_eq_false (by omega)) rfl, p_gskipU rfl rfl (decide_eq_false (by omega)) rfl, p_gskipU rfl rfl (decide_eq_false (by omega)) rfl, p_gskipU rfl rfl (decide_eq_false (by omega)) rfl, p_gskipU rfl rfl (decide_eq_false (by omega)) rfl, p_gskipU rfl rfl (decide_eq_false (by omega)) rfl, p_gskip2 rfl rfl rfl, p_gskip2 rfl rfl rfl, p_gskip2 rfl rfl rfl, p_gskip2 rfl rfl rfl, p_gskip2 rfl rfl rfl, p_gskip2 rfl rfl rfl, p_gskip2 rfl rfl rfl, p_gskip2 rfl rfl rfl, p_gskip2 rfl rfl rfl, p_gskip2 rfl rfl rfl, p_gskip2 rfl rfl rfl, p_gskip2 rfl rfl rfl, p_gskip2 rfl rfl rfl, p_gskip2 rfl rfl rfl, p_gskip2 rfl rfl rfl, p_gskip2 rfl rfl rfl, trivial⟩ rfl ?_
    refine w_ (p_gskip2 rfl rfl rfl) ?_
    refine w_ (p_gskip2 rfl rfl rfl) ?_
    refine w_ (p_gskipU rfl rfl (decide_eq_false (by omega)) rfl) ?_
    refine w_ (p_pickF rfl (decide_eq_false (by omega)) rfl rfl) ?_
    refine aw_nil ?_
    refine ac_f rfl (rfl) ?_
    refine ac_pick [3, 7, 12, 13, 14, 33, 34, 8] rfl ?_
    refine ac_exit ?_
    repeat refine seqQ_exit ?_
    refine blkQ_here ?_
    exact ⟨k, hq0, hpE, rfl, rfl⟩
   rintro L B ⟨k, hp0, hp1, rfl, rfl⟩
   have hE0 := hp0
   have hE1 := hp1
   by_cases h7 : O[k]? = some (m_.1.id, m_.2.1.id)
   ·have h11 := (List.getElem?_eq_some_iff.1 h7).1
    refine ac_seq (ac_seq ?_)
    refine ac_draw mixed_ 10 [73, 74, 75, 76, 77, 78, 79, 80, 81, 82] [[], [], [1], [0, 2], [3], [4], [4], [4, 5, 6], [4, 7], [4]] [.one (.int .i64 (((k : Nat) : Int))), .one (.orow r 2 0 O.length), .one (.int .i64 (((O.length : Nat) : Int))), .one (.bool ((decide ((((k : Nat) : Int)) < (((O.length : Nat) : Int)))))), .one (.bool ((decide ((((k : Nat) : Int)) < (((O.length : Nat) : Int)))))), .one (.orow r 2 0 O.length), .one (.int .i64 (((k : Nat) : Int))), .one (.oel r 2 ((0 + k)) 0), .agg [.int .i64 m_.1.id, .int .i64 m_.2.1.id], .agg [.int .i64 m_.1.id, .int .i64 m_.2.1.id]] rfl rfl rfl ⟨p_move rfl rfl, p_move rfl rfl, p_len (m := O.length) Tryz.runUnderlying24 rfl (rfl) rfl, p_cmp rfl rfl rfl rfl, p_move rfl rfl, (p_grun rfl rfl (decide_eq_true (by omega)) (p_move rfl rfl)), (p_grun rfl rfl (decide_eq_true (by omega)) (p_move rfl rfl)), (p_grun rfl rfl (decide_eq_true (by omega)) (p_indexO (k) Tryz.runUnderlying24 Tryz.sizeOf23 rfl rfl (rfl) (by omega) rfl)), (p_grun rfl rfl (decide_eq_true (by omega)) (p_loadO 1 Tryz.isAgg23 Tryz.sizeOf23 rfl rfl (by rw [Nat.zero_add]; exact map_get h7) rfl rfl rfl)), (p_grun rfl rfl (decide_eq_true (by omega)) (p_loadOw 0 Tryz.isAgg23 Tryz.sizeOf23 rfl rfl rfl rfl rfl)), trivial⟩ rfl ?_
    refine w_ ((p_grun rfl rfl (decide_eq_true (by omega)) (p_eqV (r := (decide (([m_.1.id, m_.2.1.id] : List Int) = [m_.1.id, m_.2.1.id]))) [m_.1.id, m_.2.1.id] [m_.1.id, m_.2.1.id] Tryz.eqGuardType23 (eqT_23 _ _ rfl rfl) rfl rfl rfl rfl (rfl) rfl))) ?_
    refine w_ (p_pickT rfl (decide_eq_true (by omega)) rfl rfl) ?_
    refine aw_nil ?_
    refine ac_t rfl (decide_eq_true rfl) ?_
    refine ac_pick [12, 13, 14, 33, 34, 3] rfl ?_
    refine ac_drop 0 rfl ?_
    refine ac_exit ?_
    repeat refine seqQ_exit ?_
    refine blkQ_here ?_
    exact ⟨r, O, by rw [insE, hE1, if_pos h7], by omega, rfl, rfl⟩
   by_cases h11 : k < O.length
   ·obtain ⟨x, hx⟩ : ∃ x, O[k]? = some x := ⟨_, List.getElem?_eq_getElem h11⟩
    refine ac_seq (ac_seq ?_)
    refine ac_draw mixed_ 10 [73, 74, 75, 76, 77, 78, 79, 80, 81, 82] [[], [], [1], [0, 2], [3], [4], [4], [4, 5, 6], [4, 7], [4]] [.one (.int .i64 (((k : Nat) : Int))), .one (.orow r 2 0 O.length), .one (.int .i64 (((O.length : Nat) : Int))), .one (.bool ((decide ((((k : Nat) : Int)) < (((O.length : Nat) : Int)))))), .one (.bool ((decide ((((k : Nat) : Int)) < (((O.length : Nat) : Int)))))), .one (.orow r 2 0 O.length), .one (.int .i64 (((k : Nat) : Int))), .one (.oel r 2 ((0 + k)) 0), .agg [.int .i64 x.1, .int .i64 x.2], .agg [.int .i64 m_.1.id, .int .i64 m_.2.1.id]] rfl rfl rfl ⟨p_move rfl rfl, p_move rfl rfl, p_len (m := O.length) Tryz.runUnderlying24 rfl (rfl) rfl, p_cmp rfl rfl rfl rfl, p_move rfl rfl, (p_grun rfl rfl (decide_eq_true (by omega)) (p_move rfl rfl)), (p_grun rfl rfl (decide_eq_true (by omega)) (p_move rfl rfl)), (p_grun rfl rfl (decide_eq_true (by omega)) (p_indexO (k) Tryz.runUnderlying24 Tryz.sizeOf23 rfl rfl (rfl) (by omega) rfl)), (p_grun rfl rfl (decide_eq_true (by omega)) (p_loadO 1 Tryz.isAgg23 Tryz.sizeOf23 rfl rfl (by rw [Nat.zero_add]; exact map_get hx) rfl rfl rfl)), (p_grun rfl rfl (decide_eq_true (by omega)) (p_loadOw 0 Tryz.isAgg23 Tryz.sizeOf23 rfl rfl rfl rfl rfl)), trivial⟩ rfl ?_
    refine w_ ((p_grun rfl rfl (decide_eq_true (by omega)) (p_eqV (r := (decide (([x.1, x.2] : List Int) = [m_.1.id, m_.2.1.id]))) [x.1, x.2] [m_.1.id, m_.2.1.id] Tryz.eqGuardType23 (eqT_23 _ _ rfl rfl) rfl rfl rfl rfl (rfl) rfl))) ?_
    refine w_ (p_pickT rfl (decide_eq_true (by omega)) rfl rfl) ?_
    refine aw_nil ?_
    refine ac_f rfl (decide_eq_false (pair_ne hx h7)) ?_
    refine ac_skip ?_
    refine ac_seq (ac_reg ?_)
    refine w_ (p_move rfl rfl) ?_
    refine w_ (p_loadOw 0 Tryz.isAgg23 Tryz.sizeOf23 rfl rfl rfl rfl rfl) ?_
    refine w_ (p_lit Tryz.runUnderlying24 Tryz.sizeOf23 Tryz.zeroValue23 rfl rfl rfl rfl rfl rfl rfl rfl rfl rfl) ?_
    refine a_append (ls2 := (O.map edL ++ [edL (m_.1.id, m_.2.1.id)])) (m2 := O.length + 1) 1 Tryz.runUnderlying24 Tryz.runUnderlying24 Tryz.typeInfo23 rfl rfl Tryz.sizeOf23 Tryz.zeroValue23 rfl rfl rfl rfl rfl rfl rfl (by rw [List.length_map]; exact Nat.le_refl _) (one_w rfl) (one_f rfl) (by show _ + 1 < _; omega) (by rw [List.take_of_length_le (by rw [List.length_map]; exact Nat.le_refl _)]) (rfl) fun r5 => ?_
    refine w_ (p_assign rfl rfl) ?_
    refine aw_nil ?_
    refine ac_seq ?_
    refine ac_draw mixed_ 7 [89, 90, 91, 92, 93, 94, 95] [[], [], [1], [0, 2], [], [], [4, 5]] [.one (.orow r5 2 0 (O.length + 1)), .one (.int .i64 (((k : Nat) : Int))), .one (.int .i64 (((k + 1 : Nat) : Int))), .one (.orow r5 2 ((0 + (k + 1))) (((O.length + 1) - (k + 1)))), .one (.orow r5 2 0 (O.length + 1)), .one (.int .i64 (((k : Nat) : Int))), .one (.orow r5 2 ((0 + k)) (((O.length + 1) - k)))] rfl rfl rfl ⟨p_move rfl rfl, p_move rfl rfl, p_add (r := ((k + 1 : Nat) : Int)) rfl rfl (i64_is (by omega) (by omega)) rfl, p_sliceOLo (k + 1) Tryz.runUnderlying24 Tryz.sizeOf23 rfl rfl (rfl) (by omega) rfl, p_move rfl rfl, p_move rfl rfl, p_sliceOLo (k) Tryz.runUnderlying24 Tryz.sizeOf23 rfl rfl (rfl) (by omega) rfl, trivial⟩ rfl ?_
    refine a_copyO (m' := O.length - k) (ls2 := ((O.map edL ++ [edL (m_.1.id, m_.2.1.id)]).take (0 + (k + 1)) ++ ((O.map edL ++ [edL (m_.1.id, m_.2.1.id)]).drop (0 + k)).take (O.length - k) ++ (O.map edL ++ [edL (m_.1.id, m_.2.1.id)]).drop (0 + (k + 1) + (O.length - k)))) 0 Tryz.runUnderlying24 Tryz.sizeOf23 rfl rfl rfl rfl (by simp; omega) (by simp; omega) (by simp) (by show min _ _ = _; omega) (rfl) rfl ?_
    refine aw_nil ?_
    refine ac_reg ?_
    refine w_ (p_move rfl rfl) ?_
    refine w_ (p_move rfl rfl) ?_
    refine w_ (p_loadOw 1 Tryz.isAgg23 Tryz.sizeOf23 rfl rfl rfl rfl rfl) ?_
    refine w_ (p_indexO (k) Tryz.runUnderlying24 Tryz.sizeOf23 rfl rfl (rfl) (by omega) rfl) ?_
    obtain ⟨z0, z1, hz⟩ := twoL (k := 0 + k) (insE_w (O := O) (z := edL (m_.1.id, m_.2.1.id)) (a := 0 + (k + 1)) (b := 0 + k) (m := O.length - k) (e := 0 + (k + 1) + (O.length - k)) rfl) (by simp; omega)
    refine a_storeO (ls2 := (insE O (m_.1.id, m_.2.1.id)).map edL) 0 Tryz.sizeOf23 rfl rfl rfl rfl rfl rfl (hz) rfl (insE_eq hE0 hE1 h7) ?_
    refine aw_slotEq 3 (y := .one (.orow r5 2 0 ((insE O (m_.1.id, m_.2.1.id)).length))) rfl (by rw [insE_up hE0 hE1 h7]) ?_
    refine aw_pick [12, 13, 14, 33, 34, 3] rfl ?_
    refine aw_drop 1 rfl ?_
    refine aw_nil ?_
    exact ⟨r5, (insE O (m_.1.id, m_.2.1.id)), rfl, by have := insE_len O (m_.1.id, m_.2.1.id); omega, rfl, rfl⟩
   skip
   refine ac_seq (ac_seq ?_)
   refine ac_draw mixed_ 10 [73, 74, 75, 76, 77, 78, 79, 80, 81, 82] [[], [], [1], [0, 2], [3], [4], [4], [4, 5, 6], [4, 7], [4]] [.one (.int .i64 (((k : Nat) : Int))), .one (.orow r 2 0 O.length), .one (.int .i64 (((O.length : Nat) : Int))), .one (.bool ((decide ((((k : Nat) : Int)) < (((O.length : Nat) : Int)))))), .one (.bool ((decide ((((k : Nat) : Int)) < (((O.length : Nat) : Int)))))), .tup [], .tup [], .tup [], .tup [], .tup []] rfl rfl rfl ⟨p_move rfl rfl, p_move rfl rfl, p_len (m := O.length) Tryz.runUnderlying24 rfl (rfl) rfl, p_cmp rfl rfl rfl rfl, p_move rfl rfl, p_gskipU rfl rfl (decide_eq_false (by omega)) rfl, p_gskipU rfl rfl (decide_eq_false (by omega)) rfl, p_gskipU rfl rfl (decide_eq_false (by omega)) rfl, p_gskipU rfl rfl (decide_eq_false (by omega)) rfl, p_gskipU rfl rfl (decide_eq_false (by omega)) rfl, trivial⟩ rfl ?_
   refine w_ (p_gskipU rfl rfl (decide_eq_false (by omega)) rfl) ?_
   refine w_ (p_pickF rfl (decide_eq_false (by omega)) rfl rfl) ?_
   refine aw_nil ?_
   refine ac_f rfl (rfl) ?_
   refine ac_skip ?_
   refine ac_seq (ac_reg ?_)
   refine w_ (p_move rfl rfl) ?_
   refine w_ (p_loadOw 0 Tryz.isAgg23 Tryz.sizeOf23 rfl rfl rfl rfl rfl) ?_
   refine w_ (p_lit Tryz.runUnderlying24 Tryz.sizeOf23 Tryz.zeroValue23 rfl rfl rfl rfl rfl rfl rfl rfl rfl rfl) ?_
   refine a_append (ls2 := (O.map edL ++ [edL (m_.1.id, m_.2.1.id)])) (m2 := O.length + 1) 1 Tryz.runUnderlying24 Tryz.runUnderlying24 Tryz.typeInfo23 rfl rfl Tryz.sizeOf23 Tryz.zeroValue23 rfl rfl rfl rfl rfl rfl rfl (by rw [List.length_map]; exact Nat.le_refl _) (one_w rfl) (one_f rfl) (by show _ + 1 < _; omega) (by rw [List.take_of_length_le (by rw [List.length_map]; exact Nat.le_refl _)]) (rfl) fun r6 => ?_
   refine w_ (p_assign rfl rfl) ?_
   refine aw_nil ?_
   refine ac_seq ?_
   refine ac_draw mixed_ 7 [89, 90, 91, 92, 93, 94, 95] [[], [], [1], [0, 2], [], [], [4, 5]] [.one (.orow r6 2 0 (O.length + 1)), .one (.int .i64 (((k : Nat) : Int))), .one (.int .i64 (((k + 1 : Nat) : Int))), .one (.orow r6 2 ((0 + (k + 1))) (((O.length + 1) - (k + 1)))), .one (.orow r6 2 0 (O.length + 1)), .one (.int .i64 (((k : Nat) : Int))), .one (.orow r6 2 ((0 + k)) (((O.length + 1) - k)))] rfl rfl rfl ⟨p_move rfl rfl, p_move rfl rfl, p_add (r := ((k + 1 : Nat) : Int)) rfl rfl (i64_is (by omega) (by omega)) rfl, p_sliceOLo (k + 1) Tryz.runUnderlying24 Tryz.sizeOf23 rfl rfl (rfl) (by omega) rfl, p_move rfl rfl, p_move rfl rfl, p_sliceOLo (k) Tryz.runUnderlying24 Tryz.sizeOf23 rfl rfl (rfl) (by omega) rfl, trivial⟩ rfl ?_
   refine a_copyO (m' := O.length - k) (ls2 := ((O.map edL ++ [edL (m_.1.id, m_.2.1.id)]).take (0 + (k + 1)) ++ ((O.map edL ++ [edL (m_.1.id, m_.2.1.id)]).drop (0 + k)).take (O.length - k) ++ (O.map edL ++ [edL (m_.1.id, m_.2.1.id)]).drop (0 + (k + 1) + (O.length - k)))) 0 Tryz.runUnderlying24 Tryz.sizeOf23 rfl rfl rfl rfl (by simp; omega) (by simp; omega) (by simp) (by show min _ _ = _; omega) (rfl) rfl ?_
   refine aw_nil ?_
   refine ac_reg ?_
   refine w_ (p_move rfl rfl) ?_
   refine w_ (p_move rfl rfl) ?_
   refine w_ (p_loadOw 1 Tryz.isAgg23 Tryz.sizeOf23 rfl rfl rfl rfl rfl) ?_
   refine w_ (p_indexO (k) Tryz.runUnderlying24 Tryz.sizeOf23 rfl rfl (rfl) (by omega) rfl) ?_
   obtain ⟨z0, z1, hz⟩ := twoL (k := 0 + k) (insE_w (O := O) (z := edL (m_.1.id, m_.2.1.id)) (a := 0 + (k + 1)) (b := 0 + k) (m := O.length - k) (e := 0 + (k + 1) + (O.length - k)) rfl) (by simp; omega)
   refine a_storeO (ls2 := (insE O (m_.1.id, m_.2.1.id)).map edL) 0 Tryz.sizeOf23 rfl rfl rfl rfl rfl rfl (hz) rfl (insE_eq hE0 hE1 h7) ?_
   refine aw_slotEq 3 (y := .one (.orow r6 2 0 ((insE O (m_.1.id, m_.2.1.id)).length))) rfl (by rw [insE_up hE0 hE1 h7]) ?_
   refine aw_pick [12, 13, 14, 33, 34, 3] rfl ?_
   refine aw_drop 1 rfl ?_
   refine aw_nil ?_
   exact ⟨r6, (insE O (m_.1.id, m_.2.1.id)), rfl, by have := insE_len O (m_.1.id, m_.2.1.id); omega, rfl, rfl⟩
  rintro L B ⟨q3, O2, hp0, hp1, rfl, rfl⟩
  have hO2 := hp0
  have hlO2 := hp1
  have hbO2 : O2.length ≤ 5000 + 1 := by omega
  skip
  refine ac_reg ?_
  refine w_ (p_add (r := ((1 : Nat) : Int)) rfl rfl (rfl) rfl) ?_
  refine w_ (p_move rfl rfl) ?_
  refine aw_nil ?_
  refine ac_round ?_
  refine ac_seq (ac_reg ?_)
  refine w_ (p_cmp (b := true) rfl rfl rfl rfl) ?_
  refine aw_nil ?_
  refine ac_seq ?_
  refine ac_t rfl (rfl) ?_
  refine ac_skip ?_
  refine ac_cut (fun L B => ∃ q8 O7, O7 = insE O2 (m_.1.id, m_.2.2.id) ∧ O7.length ≤ O2.length + 1 ∧ L = [(12, .one (tris ts)), (13, .one (.int .i64 (((ts.length : Nat) : Int)))), (14, .one (.int .i64 (((i : Nat) : Int)))), (33, .agg [.int .i64 m_.1.id, .int .i64 m_.2.1.id, .int .i64 m_.1.id, .int .i64 m_.2.2.id, .int .i64 m_.2.1.id, .int .i64 m_.2.2.id]), (34, .one (.int .i64 (((1 : Nat) : Int)))), (3, .one (.orow q8 2 0 O7.length))] ∧ B = [.row q8 23 2 (O7.map edL), .blk g 54 [c0, c1, c2, c3, c4, c5, c6, c7, c8, c9, c10, c11, y0, tris ts]]) ?_ ?_
  ·skip
   refine ac_block (ac_seq (ac_reg ?_))
   refine w_ (p_indexVA 1 Tryz.runUnderlying79 Tryz.sizeOf23 Tryz.isAgg23 rfl rfl rfl (by decide) rfl rfl) ?_
   refine a_alloc Tryz.zeroValue23 rfl rfl fun g9 => ?_
   refine a_storeOw 0 Tryz.sizeOf23 rfl rfl rfl rfl rfl rfl rfl ?_
   refine aw_nil ?_
   refine ac_seq (ac_reg ?_)
   refine w_ (p_assign rfl rfl) ?_
   refine aw_nil ?_
   refine ac_cut (fun L B => ∃ k, k ≤ O2.length ∧ posE (m_.1.id, m_.2.2.id) O2 = k ∧ L = [(3, .one (.orow q3 2 0 O2.length)), (7, .one (.ow g9 0)), (12, .one (tris ts)), (13, .one (.int .i64 (((ts.length : Nat) : Int)))), (14, .one (.int .i64 (((i : Nat) : Int)))), (33, .agg [.int .i64 m_.1.id, .int .i64 m_.2.1.id, .int .i64 m_.1.id, .int .i64 m_.2.2.id, .int .i64 m_.2.1.id, .int .i64 m_.2.2.id]), (34, .one (.int .i64 (((1 : Nat) : Int)))), (8, .one (.int .i64 (((k : Nat) : Int))))] ∧ B = [.blk g9 23 [.int .i64 m_.1.id, .int .i64 m_.2.2.id], .row q3 23 2 (O2.map edL), .blk g 54 [c0, c1, c2, c3, c4, c5, c6, c7, c8, c9, c10, c11, y0, tris ts]]) ?_ ?_
   ·skip
    refine ac_block ?_
    refine ac_pick [3, 7, 12, 13, 14, 33, 34, 8] rfl ?_
    refine ac_loop (fun m L B => ∃ k, k ≤ O2.length ∧ posE (m_.1.id, m_.2.2.id) O2 = k + posE (m_.1.id, m_.2.2.id) (O2.drop k) ∧ m = O2.length - k ∧ L = [(3, .one (.orow q3 2 0 O2.length)), (7, .one (.ow g9 0)), (12, .one (tris ts)), (13, .one (.int .i64 (((ts.length : Nat) : Int)))), (14, .one (.int .i64 (((i : Nat) : Int)))), (33, .agg [.int .i64 m_.1.id, .int .i64 m_.2.1.id, .int .i64 m_.1.id, .int .i64 m_.2.2.id, .int .i64 m_.2.1.id, .int .i64 m_.2.2.id]), (34, .one (.int .i64 (((1 : Nat) : Int)))), (8, .one (.int .i64 (((k : Nat) : Int))))] ∧ B = [.blk g9 23 [.int .i64 m_.1.id, .int .i64 m_.2.2.id], .row q3 23 2 (O2.map edL), .blk g 54 [c0, c1, c2, c3, c4, c5, c6, c7, c8, c9, c10, c11, y0, tris ts]]) (m := _) ⟨0, Nat.zero_le _, by rw [Nat.zero_add, List.drop_zero], rfl, rfl, rfl⟩ ?_
    rintro m L B ⟨k, hq0, hq1, hm, rfl, rfl⟩
    by_cases h6 : k < O2.length
    ·obtain ⟨x, hx⟩ : ∃ x, O2[k]? = some x := ⟨_, List.getElem?_eq_getElem h6⟩
     by_cases h8 : x.1 < m_.1.id
     ·have hls : lessE x (m_.1.id, m_.2.2.id) = true := by simp [lessE, h8]
      refine ac_seq (ac_seq ?_)
      refine ac_draw mixed_ 30 [37, 38, 39, 40, 41, 42, 43, 44, 45, 46, 47, 48, 49, 50, 51, 52, 53, 54, 55, 56, 57, 58, 59, 60, 61, 62, 63, 64, 65, 66] [[], [], [1], [0, 2], [3], [4], [4], [4, 5, 6], [4, 7], [4, 8], [4], [4, 10], [4, 9, 11], [4, 12], [13], [13], [13, 14, 15], [13, 16], [13, 17], [13], [13, 19], [13, 18, 20], [13, 21], [22], [22], [22, 23, 24], [22, 25], [22, 26], [22], [22, 28]] [.one (.int .i64 (((k : Nat) : Int))), .one (.orow q3 2 0 O2.length), .one (.int .i64 (((O2.length : Nat) : Int))), .one (.bool ((decide ((((k : Nat) : Int)) < (((O2.length : Nat) : Int)))))), .one (.bool ((decide ((((k : Nat) : Int)) < (((O2.length : Nat) : Int)))))), .one (.orow q3 2 0 O2.length), .one (.int .i64 (((k : Nat) : Int))), .one (.oel q3 2 ((0 + k)) 0), .one (.oel q3 2 ((0 + k)) 0), .one (.int .i64 x.1), .one (.ow g9 0), .one (.int .i64 m_.1.id), .one (.bool ((decide (x.1 < m_.1.id)))), .one (.bool ((decide (x.1 < m_.1.id)))), .tup [], .tup [], .tup [], .tup [], .tup [], .tup [], .tup [], .tup [], .tup [], .tup [], .tup [], .tup [], .tup [], .tup [], .tup [], .tup []] rfl rfl rfl ⟨p_move rfl rfl, p_move rfl rfl, p_len (m := O2.length) Tryz.runUnderlying24 rfl (rfl) rfl, p_cmp rfl rfl rfl rfl, p_move rfl rfl, (p_grun rfl rfl (decide_eq_true (by omega)) (p_move rfl rfl)), (p_grun rfl rfl (decide_eq_true (by omega)) (p_move rfl rfl)), (p_grun rfl rfl (decide_eq_true (by omega)) (p_indexO (k) Tryz.runUnderlying24 Tryz.sizeOf23 rfl rfl (rfl) (by omega) rfl)), (p_grun rfl rfl (decide_eq_true (by omega)) (p_indexArrO 0 Tryz.runUnderlying23 Tryz.sizeOf3 rfl rfl rfl (by decide) rfl)), (p_grun rfl rfl (decide_eq_true (by omega)) (p_loadO 1 Tryz.isAgg3 Tryz.sizeOf3 rfl rfl (by rw [Nat.zero_add]; exact map_get hx) rfl rfl rfl)), (p_grun rfl rfl (decide_eq_true (by omega)) (p_indexArrOw 0 Tryz.runUnderlying23 Tryz.sizeOf3 rfl rfl rfl (by decide) rfl)), (p_grun rfl rfl (decide_eq_true (by omega)) (p_loadOw 0 Tryz.isAgg3 Tryz.sizeOf3 rfl rfl rfl rfl rfl)), (p_grun rfl rfl (decide_eq_true (by omega)) (p_cmp rfl rfl rfl rfl)), (p_grun rfl rfl (decide_eq_true (by omega)) (p_move rfl rfl)), p_gskipU rfl rfl (decide_eq_true h8) rfl, p_gskipU rfl rfl (decide_eq_true h8) rfl, p_gskipU rfl rfl (decide_eq_true h8) rfl, p_gskipU rfl rfl (decide_eq_true h8) rfl, p_gskipU rfl rfl (decide_eq_true h8) rfl, p_gskipU rfl rfl (decide_eq_true h8) rfl, p_gskipU rfl rfl (decide_eq_true h8) rfl, p_gskipU rfl rfl (decide_eq_true h8) rfl, p_gskipU rfl rfl (decide_eq_true h8) rfl, p_gskip2 rfl rfl rfl, p_gskip2 rfl rfl rfl, p_gskip2 rfl rfl rfl, p_gskip2 rfl rfl rfl, p_gskip2 rfl rfl rfl, p_gskip2 rfl rfl rfl, p_gskip2 rfl rfl rfl, trivial⟩ rfl ?_
      refine w_ (p_gskip2 rfl rfl rfl) ?_
      refine w_ (p_gskipU rfl rfl (decide_eq_true h8) rfl) ?_
      refine w_ ((p_grun rfl rfl (decide_eq_true (by omega)) (p_pickT rfl (decide_eq_true h8) rfl rfl))) ?_
      refine w_ (p_pickT rfl (decide_eq_true (by omega)) rfl rfl) ?_
      refine aw_nil ?_
      refine ac_t rfl (rfl) ?_
      refine ac_skip ?_
      refine ac_block (ac_reg ?_)
      refine w_ (p_move rfl rfl) ?_
      refine w_ (p_add (r := ((k + 1 : Nat) : Int)) rfl rfl (i64_is (by omega) (by omega)) rfl) ?_
      refine w_ (p_assign rfl rfl) ?_
      refine aw_pick [3, 7, 12, 13, 14, 33, 34, 8] rfl ?_
      refine aw_nil ?_
      refine ⟨_, ?_, k + 1, by omega, by rw [hq1, posE_on hx hls]; omega, rfl, rfl, rfl⟩
      omega
     by_cases h9 : x.1 = m_.1.id
     ·by_cases h10 : x.2 < m_.2.2.id
      ·have hls : lessE x (m_.1.id, m_.2.2.id) = true := by simp [lessE, h8, h9, h10]
       refine ac_seq (ac_seq ?_)
       refine ac_draw mixed_ 30 [37, 38, 39, 40, 41, 42, 43, 44, 45, 46, 47, 48, 49, 50, 51, 52, 53, 54, 55, 56, 57, 58, 59, 60, 61, 62, 63, 64, 65, 66] [[], [], [1], [0, 2], [3], [4], [4], [4, 5, 6], [4, 7], [4, 8], [4], [4, 10], [4, 9, 11], [4, 12], [13], [13], [13, 14, 15], [13, 16], [13, 17], [13], [13, 19], [13, 18, 20], [13, 21], [22], [22], [22, 23, 24], [22, 25], [22, 26], [22], [22, 28]] [.one (.int .i64 (((k : Nat) : Int))), .one (.orow q3 2 0 O2.length), .one (.int .i64 (((O2.length : Nat) : Int))), .one (.bool ((decide ((((k : Nat) : Int)) < (((O2.length : Nat) : Int)))))), .one (.bool ((decide ((((k : Nat) : Int)) < (((O2.length : Nat) : Int)))))), .one (.orow q3 2 0 O2.length), .one (.int .i64 (((k : Nat) : Int))), .one (.oel q3 2 ((0 + k)) 0), .one (.oel q3 2 ((0 + k)) 0), .one (.int .i64 x.1), .one (.ow g9 0), .one (.int .i64 m_.1.id), .one (.bool ((decide (x.1 < m_.1.id)))), .one (.bool ((decide (x.1 < m_.1.id)))), .one (.orow q3 2 0 O2.length), .one (.int .i64 (((k : Nat) : Int))), .one (.oel q3 2 ((0 + k)) 0), .one (.oel q3 2 ((0 + k)) 0), .one (.int .i64 x.1), .one (.ow g9 0), .one (.int .i64 m_.1.id), .one (.bool ((decide (x.1 = m_.1.id)))), .one (.bool ((decide (x.1 = m_.1.id)))), .one (.orow q3 2 0 O2.length), .one (.int .i64 (((k : Nat) : Int))), .one (.oel q3 2 ((0 + k)) 0), .one (.oel q3 2 ((0 + k)) 1), .one (.int .i64 x.2), .one (.ow g9 1), .one (.int .i64 m_.2.2.id)] rfl rfl rfl ⟨p_move rfl rfl, p_move rfl rfl, p_len (m := O2.length) Tryz.runUnderlying24 rfl (rfl) rfl, p_cmp rfl rfl rfl rfl, p_move rfl rfl, (p_grun rfl rfl (decide_eq_true (by omega)) (p_move rfl rfl)), (p_grun rfl rfl (decide_eq_true (by omega)) (p_move rfl rfl)), (p_grun rfl rfl (decide_eq_true (by omega)) (p_indexO (k) Tryz.runUnderlying24 Tryz.sizeOf23 rfl rfl (rfl) (by omega) rfl)), (p_grun rfl rfl (decide_eq_true (by omega)) (p_indexArrO 0 Tryz.runUnderlying23 Tryz.sizeOf3 rfl rfl rfl (by decide) rfl)), (p_grun rfl rfl (decide_eq_true (by omega)) (p_loadO 1 Tryz.isAgg3 Tryz.sizeOf3 rfl rfl (by rw [Nat.zero_add]; exact map_get hx) rfl rfl rfl)), (p_grun rfl rfl (decide_eq_true (by omega)) (p_indexArrOw 0 Tryz.runUnderlying23 Tryz.sizeOf3 rfl rfl rfl (by decide) rfl)), (p_grun rfl rfl (decide_eq_true (by omega)) (p_loadOw 0 Tryz.isAgg3 Tryz.sizeOf3 rfl rfl rfl rfl rfl)), (p_grun rfl rfl (decide_eq_true (by omega)) (p_cmp rfl rfl rfl rfl)), (p_grun rfl rfl (decide_eq_true (by omega)) (p_move rfl rfl)), (p_grun rfl rfl (decide_eq_false h8) (p_move rfl rfl)), (p_grun rfl rfl (decide_eq_false h8) (p_move rfl rfl)), (p_grun rfl rfl (decide_eq_false h8) (p_indexO (k) Tryz.runUnderlying24 Tryz.sizeOf23 rfl rfl (rfl) (by omega) rfl)), (p_grun rfl rfl (decide_eq_false h8) (p_indexArrO 0 Tryz.runUnderlying23 Tryz.sizeOf3 rfl rfl rfl (by decide) rfl)), (p_grun rfl rfl (decide_eq_false h8) (p_loadO 1 Tryz.isAgg3 Tryz.sizeOf3 rfl rfl (by rw [Nat.zero_add]; exact map_get hx) rfl rfl rfl)), (p_grun rfl rfl (decide_eq_false h8) (p_indexArrOw 0 Tryz.runUnderlying23 Tryz.sizeOf3 rfl rfl rfl (by decide) rfl)), (p_grun rfl rfl (decide_eq_false h8) (p_loadOw 0 Tryz.isAgg3 Tryz.sizeOf3 rfl rfl rfl rfl rfl)), (p_grun rfl rfl (decide_eq_false h8) (p_cmp rfl rfl rfl rfl)), (p_grun rfl rfl (decide_eq_false h8) (p_move rfl rfl)), (p_grun rfl rfl (decide_eq_true h9) (p_move rfl rfl)), (p_grun rfl rfl (decide_eq_true h9) (p_move rfl rfl)), (p_grun rfl rfl (decide_eq_true h9) (p_indexO (k) Tryz.runUnderlying24 Tryz.sizeOf23 rfl rfl (rfl) (by omega) rfl)), (p_grun rfl rfl (decide_eq_true h9) (p_indexArrO 1 Tryz.runUnderlying23 Tryz.sizeOf3 rfl rfl rfl (by decide) rfl)), (p_grun rfl rfl (decide_eq_true h9) (p_loadO 1 Tryz.isAgg3 Tryz.sizeOf3 rfl rfl (by rw [Nat.zero_add]; exact map_get hx) rfl rfl rfl)), (p_grun rfl rfl (decide_eq_true h9) (p_indexArrOw 1 Tryz.runUnderlying23 Tryz.sizeOf3 rfl rfl rfl (by decide) rfl)), (p_grun rfl rfl (decide_eq_true h9) (p_loadOw 0 Tryz.isAgg3 Tryz.sizeOf3 rfl rfl rfl rfl rfl)), trivial⟩ rfl ?_
       refine w_ ((p_grun rfl rfl (decide_eq_true h9) (p_cmp rfl rfl rfl rfl))) ?_
       refine w_ ((p_grun rfl rfl (decide_eq_false h8) (p_pickT rfl (decide_eq_true h9) rfl rfl))) ?_
       refine w_ ((p_grun rfl rfl (decide_eq_true (by omega)) (p_pickF rfl (decide_eq_false h8) rfl rfl))) ?_
       refine w_ (p_pickT rfl (decide_eq_true (by omega)) rfl rfl) ?_
       refine aw_nil ?_
       refine ac_t rfl (decide_eq_true h10) ?_
       refine ac_skip ?_
       refine ac_block (ac_reg ?_)
       refine w_ (p_move rfl rfl) ?_
       refine w_ (p_add (r := ((k + 1 : Nat) : Int)) rfl rfl (i64_is (by omega) (by omega)) rfl) ?_
       refine w_ (p_assign rfl rfl) ?_
       refine aw_pick [3, 7, 12, 13, 14, 33, 34, 8] rfl ?_
       refine aw_nil ?_
       refine ⟨_, ?_, k + 1, by omega, by rw [hq1, posE_on hx hls]; omega, rfl, rfl, rfl⟩
       omega
      have hls : lessE x (m_.1.id, m_.2.2.id) = false := by simp [lessE, h8, h9, h10]
      have hpE : posE (m_.1.id, m_.2.2.id) O2 = k := by rw [hq1, posE_off hx hls]; rfl
      refine ac_seq (ac_seq ?_)
      refine ac_draw mixed_ 30 [37, 38, 39, 40, 41, 42, 43, 44, 45, 46, 47, 48, 49, 50, 51, 52, 53, 54, 55, 56, 57, 58, 59, 60, 61, 62, 63, 64, 65, 66] [[], [], [1], [0, 2], [3], [4], [4], [4, 5, 6], [4, 7], [4, 8], [4], [4, 10], [4, 9, 11], [4, 12], [13], [13], [13, 14, 15], [13, 16], [13, 17], [13], [13, 19], [13, 18, 20], [13, 21], [22], [22], [22, 23, 24], [22, 25], [22, 26], [22], [22, 28]] [.one (.int .i64 (((k : Nat) : Int))), .one (.orow q3 2 0 O2.length), .one (.int .i64 (((O2.length : Nat) : Int))), .one (.bool ((decide ((((k : Nat) : Int)) < (((O2.length : Nat) : Int)))))), .one (.bool ((decide ((((k : Nat) : Int)) < (((O2.length : Nat) : Int)))))), .one (.orow q3 2 0 O2.length), .one (.int .i64 (((k : Nat) : Int))), .one (.oel q3 2 ((0 + k)) 0), .one (.oel q3 2 ((0 + k)) 0), .one (.int .i64 x.1), .one (.ow g9 0), .one (.int .i64 m_.1.id), .one (.bool ((decide (x.1 < m_.1.id)))), .one (.bool ((decide (x.1 < m_.1.id)))), .one (.orow q3 2 0 O2.length), .one (.int .i64 (((k : Nat) : Int))), .one (.oel q3 2 ((0 + k)) 0), .one (.oel q3 2 ((0 + k)) 0), .one (.int .i64 x.1), .one (.ow g9 0), .one (.int .i64 m_.1.id), .one (.bool ((decide (x.1 = m_.1.id)))), .one (.bool ((decide (x.1 = m_.1.id)))), .one (.orow q3 2 0 O2.length), .one (.int .i64 (((k : Nat) : Int))), .one (.oel q3 2 ((0 + k)) 0), .one (.oel q3 2 ((0 + k)) 1), .one (.int .i64 x.2), .one (.ow g9 1), .one (.int .i64 m_.2.2.id)] rfl rfl rfl ⟨p_move rfl rfl, p_move rfl rfl, p_len (m := O2.length) Tryz.runUnderlying24 rfl (rfl) rfl, p_cmp rfl rfl rfl rfl, p_move rfl rfl, (p_grun rfl rfl (decide_eq_true (by omega)) (p_move rfl rfl)), (p_grun rfl rfl (decide_eq_true (by omega)) (p_move rfl rfl)), (p_grun rfl rfl (decide_eq_true (by omega)) (p_indexO (k) Tryz.runUnderlying24 Tryz.sizeOf23 rfl rfl (rfl) (by omega) rfl)), (p_grun rfl rfl (decide_eq_true (by omega)) (p_indexArrO 0 Tryz.runUnderlying23 Tryz.sizeOf3 rfl rfl rfl (by decide) rfl)), (p_grun rfl rfl (decide_eq_true (by omega)) (p_loadO 1 Tryz.isAgg3 Tryz.sizeOf3 rfl rfl (by rw [Nat.zero_add]; exact map_get hx) rfl rfl rfl)), (p_grun rfl rfl (decide_eq_true (by omega)) (p_indexArrOw 0 Tryz.runUnderlying23 Tryz.sizeOf3 rfl rfl rfl (by decide) rfl)), (p_grun rfl rfl (decide_eq_true (by omega)) (p_loadOw 0 Tryz.isAgg3 Tryz.sizeOf3 rfl rfl rfl rfl rfl)), (p_grun rfl rfl (decide_eq_true (by omega)) (p_cmp rfl rfl rfl rfl)), (p_grun rfl rfl (decide_eq_true (by omega)) (p_move rfl rfl)), (p_grun rfl rfl (decide_eq_false h8) (p_move rfl rfl)), (p_grun rfl rfl (decide_eq_false h8) (p_move rfl rfl)), (p_grun rfl rfl (decide_eq_false h8) (p_indexO (k) Tryz.runUnderlying24 Tryz.sizeOf23 rfl rfl (rfl) (by omega) rfl)), (p_grun rfl rfl (decide_eq_false h8) (p_indexArrO 0 Tryz.runUnderlying23 Tryz.sizeOf3 rfl rfl rfl (by decide) rfl)), (p_grun rfl rfl (decide_eq_false h8) (p_loadO 1 Tryz.isAgg3 Tryz.sizeOf3 rfl rfl (by rw [Nat.zero_add]; exact map_get hx) rfl rfl rfl)), (p_grun rfl rfl (decide_eq_false h8) (p_indexArrOw 0 Tryz.runUnderlying23 Tryz.sizeOf3 rfl rfl rfl (by decide) rfl)), (p_grun rfl rfl (decide_eq_false h8) (p_loadOw 0 Tryz.isAgg3 Tryz.sizeOf3 rfl rfl rfl rfl rfl)), (p_grun rfl rfl (decide_eq_false h8) (p_cmp rfl rfl rfl rfl)), (p_grun rfl rfl (decide_eq_false h8) (p_move rfl rfl)), (p_grun rfl rfl (decide_eq_true h9) (p_move rfl rfl)), (p_grun rfl rfl (decide_eq_true h9) (p_move rfl rfl)), (p_grun rfl rfl (decide_eq_true h9) (p_indexO (k) Tryz.runUnderlying24 Tryz.sizeOf23 rfl rfl (rfl) (by omega) rfl)), (p_grun rfl rfl (decide_eq_true h9) (p_indexArrO 1 Tryz.runUnderlying23 Tryz.sizeOf3 rfl rfl rfl (by decide) rfl)), (p_grun rfl rfl (decide_eq_true h9) (p_loadO 1 Tryz.isAgg3 Tryz.sizeOf3 rfl rfl (by rw [Nat.zero_add]; exact map_get hx) rfl rfl rfl)), (p_grun rfl rfl (decide_eq_true h9) (p_indexArrOw 1 Tryz.runUnderlying23 Tryz.sizeOf3 rfl rfl rfl (by decide) rfl)), (p_grun rfl rfl (decide_eq_true h9) (p_loadOw 0 Tryz.isAgg3 Tryz.sizeOf3 rfl rfl rfl rfl rfl)), trivial⟩ rfl ?_
      refine w_ ((p_grun rfl rfl (decide_eq_true h9) (p_cmp rfl rfl rfl rfl))) ?_
      refine w_ ((p_grun rfl rfl (decide_eq_false h8) (p_pickT rfl (decide_eq_true h9) rfl rfl))) ?_
      refine w_ ((p_grun rfl rfl (decide_eq_true (by omega)) (p_pickF rfl (decide_eq_false h8) rfl rfl))) ?_
      refine w_ (p_pickT rfl (decide_eq_true (by omega)) rfl rfl) ?_
      refine aw_nil ?_
      refine ac_f rfl (decide_eq_false h10) ?_
      refine ac_pick [3, 7, 12, 13, 14, 33, 34, 8] rfl ?_
      refine ac_exit ?_
      repeat refine seqQ_exit ?_
      refine blkQ_here ?_
      exact ⟨k, hq0, hpE, rfl, rfl⟩
     have hls : lessE x (m_.1.id, m_.2.2.id) = false := by simp [lessE, h8, h9]
     have hpE : posE (m_.1.id, m_.2.2.id) O2 = k := by rw [hq1, posE_off hx hls]; rfl
     refine ac_seq (ac_seq ?_)
     refine ac_draw mixed_ 30 [37, 38, 39, 40, 41, 42, 43, 44, 45, 46, 47, 48, 49, 50, 51, 52, 53, 54, 55, 56, 57, 58, 59, 60, 61, 62, 63, 64, 65, 66] [[], [], [1], [0, 2], [3], [4], [4], [4, 5, 6], [4, 7], [4, 8], [4], [4, 10], [4, 9, 11], [4, 12], [13], [13], [13, 14, 15], [13, 16], [13, 17], [13], [13, 19], [13, 18, 20], [13, 21], [22], [22], [22, 23, 24], [22, 25], [22, 26], [22], [22, 28]] [.one (.int .i64 (((k : Nat) : Int))), .one (.orow q3 2 0 O2.length), .one (.int .i64 (((O2.length : Nat) : Int))), .one (.bool ((decide ((((k : Nat) : Int)) < (((O2.length : Nat) : Int)))))), .one (.bool ((decide ((((k : Nat) : Int)) < (((O2.length : Nat) : Int)))))), .one (.orow q3 2 0 O2.length), .one (.int .i64 (((k : Nat) : Int))), .one (.oel q3 2 ((0 + k)) 0), .one (.oel q3 2 ((0 + k)) 0), .one (.int .i64 x.1), .one (.ow g9 0), .one (.int .i64 m_.1.id), .one (.bool ((decide (x.1 < m_.1.id)))), .one (.bool ((decide (x.1 < m_.1.id)))), .one (.orow q3 2 0 O2.length), .one (.int .i64 (((k : Nat) : Int))), .one (.oel q3 2 ((0 + k)) 0), .one (.oel q3 2 ((0 + k)) 0), .one (.int .i64 x.1), .one (.ow g9 0), .one (.int .i64 m_.1.id), .one (.bool ((decide (x.1 = m_.1.id)))), .one (.bool ((decide (x.1 = m_.1.id)))), .tup [], .tup [], .tup [], .tup [], .tup [], .tup [], .tup []] rfl rfl rfl ⟨p_move rfl rfl, p_move rfl rfl, p_len (m := O2.length) Tryz.runUnderlying24 rfl (rfl) rfl, p_cmp rfl rfl rfl rfl, p_move rfl rfl, (p_grun rfl rfl (decide_eq_true (by omega)) (p_move rfl rfl)), (p_grun rfl rfl (decide_eq_true (by omega)) (p_move rfl rfl)), (p_grun rfl rfl (decide_eq_true (by omega)) (p_indexO (k) Tryz.runUnderlying24 Tryz.sizeOf23 rfl rfl (rfl) (by omega) rfl)), (p_grun rfl rfl (decide_eq_true (by omega)) (p_indexArrO 0 Tryz.runUnderlying23 Tryz.sizeOf3 rfl rfl rfl (by decide) rfl)), (p_grun rfl rfl (decide_eq_true (by omega)) (p_loadO 1 Tryz.isAgg3 Tryz.sizeOf3 rfl rfl (by rw [Nat.zero_add]; exact map_get hx) rfl rfl rfl)), (p_grun rfl rfl (decide_eq_true (by omega)) (p_indexArrOw 0 Tryz.runUnderlying23 Tryz.sizeOf3 rfl rfl rfl (by decide) rfl)), (p_grun rfl rfl (decide_eq_true (by omega)) (p_loadOw 0 Tryz.isAgg3 Tryz.sizeOf3 rfl rfl rfl rfl rfl)), (p_grun rfl rfl (decide_eq_true (by omega)) (p_cmp rfl rfl rfl rfl)), (p_grun rfl rfl (decide_eq_true (by omega)) (p_move rfl rfl)), (p_grun rfl rfl (decide_eq_false h8) (p_move rfl rfl)), (p_grun rfl rfl (decide_eq_false h8) (p_move rfl rfl)), (p_grun rfl rfl (decide_eq_false h8) (p_indexO (k) Tryz.runUnderlying24 Tryz.sizeOf23 rfl rfl (rfl) (by omega) rfl)), (p_grun rfl rfl (decide_eq_false h8) (p_indexArrO 0 Tryz.runUnderlying23 Tryz.sizeOf3 rfl rfl rfl (by decide) rfl)), (p_grun rfl rfl (decide_eq_false h8) (p_loadO 1 Tryz.isAgg3 Tryz.sizeOf3 rfl rfl (by rw [Nat.zero_add]; exact map_get hx) rfl rfl rfl)), (p_grun rfl rfl (decide_eq_false h8) (p_indexArrOw 0 Tryz.runUnderlying23 Tryz.sizeOf3 rfl rfl rfl (by decide) rfl)), (p_grun rfl rfl (decide_eq_false h8) (p_loadOw 0 Tryz.isAgg3 Tryz.sizeOf3 rfl rfl rfl rfl rfl)), (p_grun rfl rfl (decide_eq_false h8) (p_cmp rfl rfl rfl rfl)), (p_grun rfl rfl (decide_eq_false h8) (p_move rfl rfl)), p_gskipU rfl rfl (decide_eq_false h9) rfl, p_gskipU rfl rfl (decide_eq_false h9) rfl, p_gskipU rfl rfl (decide_eq_false h9) rfl, p_gskipU rfl rfl (decide_eq_false h9) rfl, p_gskipU rfl rfl (decide_eq_false h9) rfl, p_gskipU rfl rfl (decide_eq_false h9) rfl, p_gskipU rfl rfl (decide_eq_false h9) rfl, trivial⟩ rfl ?_
     refine w_ (p_gskipU rfl rfl (decide_eq_false h9) rfl) ?_
     refine w_ ((p_grun rfl rfl (decide_eq_false h8) (p_pickF rfl (decide_eq_false h9) rfl rfl))) ?_
     refine w_ ((p_grun rfl rfl (decide_eq_true (by omega)) (p_pickF rfl (decide_eq_false h8) rfl rfl))) ?_
     refine w_ (p_pickT rfl (decide_eq_true (by omega)) rfl rfl) ?_
     refine aw_nil ?_
     refine ac_f rfl (rfl) ?_
     refine ac_pick [3, 7, 12, 13, 14, 33, 34, 8] rfl ?_
     refine ac_exit ?_
     repeat refine seqQ_exit ?_
     refine blkQ_here ?_
     exact ⟨k, hq0, hpE, rfl, rfl⟩
    have hpE : posE (m_.1.id, m_.2.2.id) O2 = k := by rw [hq1, posE_end h6]; rfl
    refine ac_seq (ac_seq ?_)
    refine ac_draw mixed_ 30 [37, 38, 39, 40, 41, 42, 43, 44, 45, 46, 47, 48, 49, 50, 51, 52, 53, 54, 55, 56, 57, 58, 59, 60, 61, 62, 63, 64, 65, 66] [[], [], [1], [0, 2], [3], [4], [4], [4, 5, 6], [4, 7], [4, 8], [4], [4, 10], [4, 9, 11], [4, 12], [13], [13], [13, 14, 15], [13, 16], [13, 17], [13], [13, 19], [13, 18, 20], [13, 21], [22], [22], [22, 23, 24], [22, 25], [22, 26], [22], [22, 28]] [.one (.int .i64 (((k : Nat) : Int))), .one (.orow q3 2 0 O2.length), .one (.int .i64 (((O2.length : Nat) : Int))), .one (.bool ((decide ((((k : Nat) : Int)) < (((O2.length : Nat) : Int)))))), .one (.bool ((decide ((((k : Nat) : Int)) < (((O2.length : Nat) : Int)))))), .tup [], .tup [], .tup [], .tup [], .tup [], .tup [], .tup [], .tup [], .tup [], .tup [], .tup [], .tup [], .tup [], .tup [], .tup [], .tup [], .tup [], .tup [], .tup [], .tup [], .tup [], .tup [], .tup [], .tup [], .tup []] rfl rfl rfl ⟨p_move rfl rfl, p_move rfl rfl, p_len (m := O2.length) Tryz.runUnderlying24 rfl (rfl) rfl, p_cmp rfl rfl rfl rfl, p_move rfl rfl, p_gskipU rfl rfl (decide_eq_false (by omega)) rfl, p_gskipU rfl rfl (decide_eq_false (by omega)) rfl, p_gskipU rfl rfl (decide_eq_false (by omega)) rfl, p_gskipU rfl rfl (decide_eq_false (by omega)) rfl, p_gskipU rfl rfl (decide_eq_false (by omega)) rfl, p_gskipU rfl rfl (decide_eq_false (by omega)) rfl, p_gskipU rfl rfl (decide_eq_false (by omega)) rfl, p_gskipU rfl rfl (decide_eq_false (by omega)) rfl, p_gskipU rfl rfl (decide_eq_false (by omega)) rfl, p_gskip2 rfl rfl rfl, p_gskip2 rfl rfl rfl, p_gskip2 rfl rfl rfl, p_gskip2 rfl rfl rfl, p_gskip2 rfl rfl rfl, p_gskip2 rfl rfl rfl, p_gskip2 rfl rfl rfl, p_gskip2 rfl rfl rfl, p_gskip2 rfl rfl rfl, p_gskip2 rfl rfl rfl, p_gskip2 rfl rfl rfl, p_gskip2 rfl rfl rfl, p_gskip2 rfl rfl rfl, p_gskip2 rfl rfl rfl, p_gskip2 rfl rfl rfl, p_gskip2 rfl rfl rfl, trivial⟩ rfl ?_
    refine w_ (p_gskip2 rfl rfl rfl) ?_
    refine w_ (p_gskip2 rfl rfl rfl) ?_
    refine w_ (p_gskipU rfl rfl (decide_eq_false (by omega)) rfl) ?_
    refine w_ (p_pickF rfl (decide_eq_false (by omega)) rfl rfl) ?_
    refine aw_nil ?_
    refine ac_f rfl (rfl) ?_
    refine ac_pick [3, 7, 12, 13, 14, 33, 34, 8] rfl ?_
    refine ac_exit ?_
    repeat refine seqQ_exit ?_
    refine blkQ_here ?_
    exact ⟨k, hq0, hpE, rfl, rfl⟩
   rintro L B ⟨k, hp0, hp1, rfl, rfl⟩
   have hE0 := hp0
   have hE1 := hp1
   by_cases h7 : O2[k]? = some (m_.1.id, m_.2.2.id)
   ·have h11 := (List.getElem?_eq_some_iff.1 h7).1
    refine ac_seq (ac_seq ?_)
    refine ac_draw mixed_ 10 [73, 74, 75, 76, 77, 78, 79, 80, 81, 82] [[], [], [1], [0, 2], [3], [4], [4], [4, 5, 6], [4, 7], [4]] [.one (.int .i64 (((k : Nat) : Int))), .one (.orow q3 2 0 O2.length), .one (.int .i64 (((O2.length : Nat) : Int))), .one (.bool ((decide ((((k : Nat) : Int)) < (((O2.length : Nat) : Int)))))), .one (.bool ((decide ((((k : Nat) : Int)) < (((O2.length : Nat) : Int)))))), .one (.orow q3 2 0 O2.length), .one (.int .i64 (((k : Nat) : Int))), .one (.oel q3 2 ((0 + k)) 0), .agg [.int .i64 m_.1.id, .int .i64 m_.2.2.id], .agg [.int .i64 m_.1.id, .int .i64 m_.2.2.id]] rfl rfl rfl ⟨p_move rfl rfl, p_move rfl rfl, p_len (m := O2.length) Tryz.runUnderlying24 rfl (rfl) rfl, p_cmp rfl rfl rfl rfl, p_move rfl rfl, (p_grun rfl rfl (decide_eq_true (by omega)) (p_move rfl rfl)), (p_grun rfl rfl (decide_eq_true (by omega)) (p_move rfl rfl)), (p_grun rfl rfl (decide_eq_true (by omega)) (p_indexO (k) Tryz.runUnderlying24 Tryz.sizeOf23 rfl rfl (rfl) (by omega) rfl)), (p_grun rfl rfl (decide_eq_true (by omega)) (p_loadO 1 Tryz.isAgg23 Tryz.sizeOf23 rfl rfl (by rw [Nat.zero_add]; exact map_get h7) rfl rfl rfl)), (p_grun rfl rfl (decide_eq_true (by omega)) (p_loadOw 0 Tryz.isAgg23 Tryz.sizeOf23 rfl rfl rfl rfl rfl)), trivial⟩ rfl ?_
    refine w_ ((p_grun rfl rfl (decide_eq_true (by omega)) (p_eqV (r := (decide (([m_.1.id, m_.2.2.id] : List Int) = [m_.1.id, m_.2.2.id]))) [m_.1.id, m_.2.2.id] [m_.1.id, m_.2.2.id] Tryz.eqGuardType23 (eqT_23 _ _ rfl rfl) rfl rfl rfl rfl (rfl) rfl))) ?_
    refine w_ (p_pickT rfl (decide_eq_true (by omega)) rfl rfl) ?_
    refine aw_nil ?_
    refine ac_t rfl (decide_eq_true rfl) ?_
    refine ac_pick [12, 13, 14, 33, 34, 3] rfl ?_
    refine ac_drop 0 rfl ?_
    refine ac_exit ?_
    repeat refine seqQ_exit ?_
    refine blkQ_here ?_
    exact ⟨q3, O2, by rw [insE, hE1, if_pos h7], by omega, rfl, rfl⟩
   by_cases h11 : k < O2.length
   ·obtain ⟨x, hx⟩ : ∃ x, O2[k]? = some x := ⟨_, List.getElem?_eq_getElem h11⟩
    refine ac_seq (ac_seq ?_)
    refine ac_draw mixed_ 10 [73, 74, 75, 76, 77, 78, 79, 80, 81, 82] [[], [], [1], [0, 2], [3], [4], [4], [4, 5, 6], [4, 7], [4]] [.one (.int .i64 (((k : Nat) : Int))), .one (.orow q3 2 0 O2.length), .one (.int .i64 (((O2.length : Nat) : Int))), .one (.bool ((decide ((((k : Nat) : Int)) < (((O2.length : Nat) : Int)))))), .one (.bool ((decide ((((k : Nat) : Int)) < (((O2.length : Nat) : Int)))))), .one (.orow q3 2 0 O2.length), .one (.int .i64 (((k : Nat) : Int))), .one (.oel q3 2 ((0 + k)) 0), .agg [.int .i64 x.1, .int .i64 x.2], .agg [.int .i64 m_.1.id, .int .i64 m_.2.2.id]] rfl rfl rfl ⟨p_move rfl rfl, p_move rfl rfl, p_len (m := O2.length) Tryz.runUnderlying24 rfl (rfl) rfl, p_cmp rfl rfl rfl rfl, p_move rfl rfl, (p_grun rfl rfl (decide_eq_true (by omega)) (p_move rfl rfl)), (p_grun rfl rfl (decide_eq_true (by omega)) (p_move rfl rfl)), (p_grun rfl rfl (decide_eq_true (by omega)) (p_indexO (k) Tryz.runUnderlying24 Tryz.sizeOf23 rfl rfl (rfl) (by omega) rfl)), (p_grun rfl rfl (decide_eq_true (by omega)) (p_loadO 1 Tryz.isAgg23 Tryz.sizeOf23 rfl rfl (by rw [Nat.zero_add]; exact map_get hx) rfl rfl rfl)), (p_grun rfl rfl (decide_eq_true (by omega)) (p_loadOw 0 Tryz.isAgg23 Tryz.sizeOf23 rfl rfl rfl rfl rfl)), trivial⟩ rfl ?_
    refine w_ ((p_grun rfl rfl (decide_eq_true (by omega)) (p_eqV (r := (decide (([x.1, x.2] : List Int) = [m_.1.id, m_.2.2.id]))) [x.1, x.2] [m_.1.id, m_.2.2.id] Tryz.eqGuardType23 (eqT_23 _ _ rfl rfl) rfl rfl rfl rfl (rfl) rfl))) ?_
    refine w_ (p_pickT rfl (decide_eq_true (by omega)) rfl rfl) ?_
    refine aw_nil ?_
    refine ac_f rfl (decide_eq_false (pair_ne hx h7)) ?_
    refine ac_skip ?_
    refine ac_seq (ac_reg ?_)
    refine w_ (p_move rfl rfl) ?_
    refine w_ (p_loadOw 0 Tryz.isAgg23 Tryz.sizeOf23 rfl rfl rfl rfl rfl) ?_
    refine w_ (p_lit Tryz.runUnderlying24 Tryz.sizeOf23 Tryz.zeroValue23 rfl rfl rfl rfl rfl rfl rfl rfl rfl rfl) ?_
    refine a_append (ls2 := (O2.map edL ++ [edL (m_.1.id, m_.2.2.id)])) (m2 := O2.length + 1) 1 Tryz.runUnderlying24 Tryz.runUnderlying24 Tryz.typeInfo23 rfl rfl Tryz.sizeOf23 Tryz.zeroValue23 rfl rfl rfl rfl rfl rfl rfl (by rw [List.length_map]; exact Nat.le_refl _) (one_w rfl) (one_f rfl) (by show _ + 1 < _; omega) (by rw [List.take_of_length_le (by rw [List.length_map]; exact Nat.le_refl _)]) (rfl) fun r10 => ?_
    refine w_ (p_assign rfl rfl) ?_
    refine aw_nil ?_
    refine ac_seq ?_
    refine ac_draw mixed_ 7 [89, 90, 91, 92, 93, 94, 95] [[], [], [1], [0, 2], [], [], [4, 5]] [.one (.orow r10 2 0 (O2.length + 1)), .one (.int .i64 (((k : Nat) : Int))), .one (.int .i64 (((k + 1 : Nat) : Int))), .one (.orow r10 2 ((0 + (k + 1))) (((O2.length + 1) - (k + 1)))), .one (.orow r10 2 0 (O2.length + 1)), .one (.int .i64 (((k : Nat) : Int))), .one (.orow r10 2 ((0 + k)) (((O2.length + 1) - k)))] rfl rfl rfl ⟨p_move rfl rfl, p_move rfl rfl, p_add (r := ((k + 1 : Nat) : Int)) rfl rfl (i64_is (by omega) (by omega)) rfl, p_sliceOLo (k + 1) Tryz.runUnderlying24 Tryz.sizeOf23 rfl rfl (rfl) (by omega) rfl, p_move rfl rfl, p_move rfl rfl, p_sliceOLo (k) Tryz.runUnderlying24 Tryz.sizeOf23 rfl rfl (rfl) (by omega) rfl, trivial⟩ rfl ?_
    refine a_copyO (m' := O2.length - k) (ls2 := ((O2.map edL ++ [edL (m_.1.id, m_.2.2.id)]).take (0 + (k + 1)) ++ ((O2.map edL ++ [edL (m_.1.id, m_.2.2.id)]).drop (0 + k)).take (O2.length - k) ++ (O2.map edL ++ [edL (m_.1.id, m_.2.2.id)]).drop (0 + (k + 1) + (O2.length - k)))) 0 Tryz.runUnderlying24 Tryz.sizeOf23 rfl rfl rfl rfl (by simp; omega) (by simp; omega) (by simp) (by show min _ _ = _; omega) (rfl) rfl ?_
    refine aw_nil ?_
    refine ac_reg ?_
    refine w_ (p_move rfl rfl) ?_
    refine w_ (p_move rfl rfl) ?_
    refine w_ (p_loadOw 1 Tryz.isAgg23 Tryz.sizeOf23 rfl rfl rfl rfl rfl) ?_
    refine w_ (p_indexO (k) Tryz.runUnderlying24 Tryz.sizeOf23 rfl rfl (rfl) (by omega) rfl) ?_
    obtain ⟨z0, z1, hz⟩ := twoL (k := 0 + k) (insE_w (O := O2) (z := edL (m_.1.id, m_.2.2.id)) (a := 0 + (k + 1)) (b := 0 + k) (m := O2.length - k) (e := 0 + (k + 1) + (O2.length - k)) rfl) (by simp; omega)
    refine a_storeO (ls2 := (insE O2 (m_.1.id, m_.2.2.id)).map edL) 0 Tryz.sizeOf23 rfl rfl rfl rfl rfl rfl (hz) rfl (insE_eq hE0 hE1 h7) ?_
    refine aw_slotEq 3 (y := .one (.orow r10 2 0 ((insE O2 (m_.1.id, m_.2.2.id)).length))) rfl (by rw [insE_up hE0 hE1 h7]) ?_
    refine aw_pick [12, 13, 14, 33, 34, 3] rfl ?_
    refine aw_drop 1 rfl ?_
    refine aw_nil ?_
    exact ⟨r10, (insE O2 (m_.1.id, m_.2.2.id)), rfl, by have := insE_len O2 (m_.1.id, m_.2.2.id); omega, rfl, rfl⟩
   skip
   refine ac_seq (ac_seq ?_)
   refine ac_draw mixed_ 10 [73, 74, 75, 76, 77, 78, 79, 80, 81, 82] [[], [], [1], [0, 2], [3], [4], [4], [4, 5, 6], [4, 7], [4]] [.one (.int .i64 (((k : Nat) : Int))), .one (.orow q3 2 0 O2.length), .one (.int .i64 (((O2.length : Nat) : Int))), .one (.bool ((decide ((((k : Nat) : Int)) < (((O2.length : Nat) : Int)))))), .one (.bool ((decide ((((k : Nat) : Int)) < (((O2.length : Nat) : Int)))))), .tup [], .tup [], .tup [], .tup [], .tup []] rfl rfl rfl ⟨p_move rfl rfl, p_move rfl rfl, p_len (m := O2.length) Tryz.runUnderlying24 rfl (rfl) rfl, p_cmp rfl rfl rfl rfl, p_move rfl rfl, p_gskipU rfl rfl (decide_eq_false (by omega)) rfl, p_gskipU rfl rfl (decide_eq_false (by omega)) rfl, p_gskipU rfl rfl (decide_eq_false (by omega)) rfl, p_gskipU rfl rfl (decide_eq_false (by omega)) rfl, p_gskipU rfl rfl (decide_eq_false (by omega)) rfl, trivial⟩ rfl ?_
   refine w_ (p_gskipU rfl rfl (decide_eq_false (by omega)) rfl) ?_
   refine w_ (p_pickF rfl (decide_eq_false (by omega)) rfl rfl) ?_
   refine aw_nil ?_
   refine ac_f rfl (rfl) ?_
   refine ac_skip ?_
   refine ac_seq (ac_reg ?_)
   refine w_ (p_move rfl rfl) ?_
   refine w_ (p_loadOw 0 Tryz.isAgg23 Tryz.sizeOf23 rfl rfl rfl rfl rfl) ?_
   refine w_ (p_lit Tryz.runUnderlying24 Tryz.sizeOf23 Tryz.zeroValue23 rfl rfl rfl rfl rfl rfl rfl rfl rfl rfl) ?_
   refine a_append (ls2 := (O2.map edL ++ [edL (m_.1.id, m_.2.2.id)])) (m2 := O2.length + 1) 1 Tryz.runUnderlying24 Tryz.runUnderlying24 Tryz.typeInfo23 rfl rfl Tryz.sizeOf23 Tryz.zeroValue23 rfl rfl rfl rfl rfl rfl rfl (by rw [List.length_map]; exact Nat.le_refl _) (one_w rfl) (one_f rfl) (by show _ + 1 < _; omega) (by rw [List.take_of_length_le (by rw [List.length_map]; exact Nat.le_refl _)]) (rfl) fun r11 => ?_
   refine w_ (p_assign rfl rfl) ?_
   refine aw_nil ?_
   refine ac_seq ?_
   refine ac_draw mixed_ 7 [89, 90, 91, 92, 93, 94, 95] [[], [], [1], [0, 2], [], [], [4, 5]] [.one (.orow r11 2 0 (O2.length + 1)), .one (.int .i64 (((k : Nat) : Int))), .one (.int .i64 (((k + 1 : Nat) : Int))), .one (.orow r11 2 ((0 + (k + 1))) (((O2.length + 1) - (k + 1)))), .one (.orow r11 2 0 (O2.length + 1)), .one (.int .i64 (((k : Nat) : Int))), .one (.orow r11 2 ((0 + k)) (((O2.length + 1) - k)))] rfl rfl rfl ⟨p_move rfl rfl, p_move rfl rfl, p_add (r := ((k + 1 : Nat) : Int)) rfl rfl (i64_is (by omega) (by omega)) rfl, p_sliceOLo (k + 1) Tryz.runUnderlying24 Tryz.sizeOf23 rfl rfl (rfl) (by omega) rfl, p_move rfl rfl, p_move rfl rfl, p_sliceOLo (k) Tryz.runUnderlying24 Tryz.sizeOf23 rfl rfl (rfl) (by omega) rfl, trivial⟩ rfl ?_
   refine a_copyO (m' := O2.length - k) (ls2 := ((O2.map edL ++ [edL (m_.1.id, m_.2.2.id)]).take (0 + (k + 1)) ++ ((O2.map edL ++ [edL (m_.1.id, m_.2.2.id)]).drop (0 + k)).take (O2.length - k) ++ (O2.map edL ++ [edL (m_.1.id, m_.2.2.id)]).drop (0 + (k + 1) + (O2.length - k)))) 0 Tryz.runUnderlying24 Tryz.sizeOf23 rfl rfl rfl rfl (by simp; omega) (by simp; omega) (by simp) (by show min _ _ = _; omega) (rfl) rfl ?_
   refine aw_nil ?_
   refine ac_reg ?_
   refine w_ (p_move rfl rfl) ?_
   refine w_ (p_move rfl rfl) ?_
   refine w_ (p_loadOw 1 Tryz.isAgg23 Tryz.sizeOf23 rfl rfl rfl rfl rfl) ?_
   refine w_ (p_indexO (k) Tryz.runUnderlying24 Tryz.sizeOf23 rfl rfl (rfl) (by omega) rfl) ?_
   obtain ⟨z0, z1, hz⟩ := twoL (k := 0 + k) (insE_w (O := O2) (z := edL (m_.1.id, m_.2.2.id)) (a := 0 + (k + 1)) (b := 0 + k) (m := O2.length - k) (e := 0 + (k + 1) + (O2.length - k)) rfl) (by simp; omega)
   refine a_storeO (ls2 := (insE O2 (m_.1.id, m_.2.2.id)).map edL) 0 Tryz.sizeOf23 rfl rfl rfl rfl rfl rfl (hz) rfl (insE_eq hE0 hE1 h7) ?_
   refine aw_slotEq 3 (y := .one (.orow r11 2 0 ((insE O2 (m_.1.id, m_.2.2.id)).length))) rfl (by rw [insE_up hE0 hE1 h7]) ?_
   refine aw_pick [12, 13, 14, 33, 34, 3] rfl ?_
   refine aw_drop 1 rfl ?_
   refine aw_nil ?_
   exact ⟨r11, (insE O2 (m_.1.id, m_.2.2.id)), rfl, by have := insE_len O2 (m_.1.id, m_.2.2.id); omega, rfl, rfl⟩
  rintro L B ⟨q8, O7, hp0, hp1, rfl, rfl⟩
  have hO7 := hp0
  have hlO7 := hp1
  have hbO7 : O7.length ≤ 5000 + 2 := by omega
  skip
  refine ac_reg ?_
  refine w_ (p_add (r := ((2 : Nat) : Int)) rfl rfl (rfl) rfl) ?_
  refine w_ (p_move rfl rfl) ?_
  refine aw_nil ?_
  refine ac_round ?_
  refine ac_seq (ac_reg ?_)
  refine w_ (p_cmp (b := true) rfl rfl rfl rfl) ?_
  refine aw_nil ?_
  refine ac_seq ?_
  refine ac_t rfl (rfl) ?_
  refine ac_skip ?_
  refine ac_cut (fun L B => ∃ q13 O12, O12 = insE O7 (m_.2.1.id, m_.2.2.id) ∧ O12.length ≤ O7.length + 1 ∧ L = [(12, .one (tris ts)), (13, .one (.int .i64 (((ts.length : Nat) : Int)))), (14, .one (.int .i64 (((i : Nat) : Int)))), (33, .agg [.int .i64 m_.1.id, .int .i64 m_.2.1.id, .int .i64 m_.1.id, .int .i64 m_.2.2.id, .int .i64 m_.2.1.id, .int .i64 m_.2.2.id]), (34, .one (.int .i64 (((2 : Nat) : Int)))), (3, .one (.orow q13 2 0 O12.length))] ∧ B = [.row q13 23 2 (O12.map edL), .blk g 54 [c0, c1, c2, c3, c4, c5, c6, c7, c8, c9, c10, c11, y0, tris ts]]) ?_ ?_
  ·skip
   refine ac_block (ac_seq (ac_reg ?_))
   refine w_ (p_indexVA 2 Tryz.runUnderlying79 Tryz.sizeOf23 Tryz.isAgg23 rfl rfl rfl (by decide) rfl rfl) ?_
   refine a_alloc Tryz.zeroValue23 rfl rfl fun g14 => ?_
   refine a_storeOw 0 Tryz.sizeOf23 rfl rfl rfl rfl rfl rfl rfl ?_
   refine aw_nil ?_
   refine ac_seq (ac_reg ?_)
   refine w_ (p_assign rfl rfl) ?_
   refine aw_nil ?_
   refine ac_cut (fun L B => ∃ k, k ≤ O7.length ∧ posE (m_.2.1.id, m_.2.2.id) O7 = k ∧ L = [(3, .one (.orow q8 2 0 O7.length)), (7, .one (.ow g14 0)), (12, .one (tris ts)), (13, .one (.int .i64 (((ts.length : Nat) : Int)))), (14, .one (.int .i64 (((i : Nat) : Int)))), (33, .agg [.int .i64 m_.1.id, .int .i64 m_.2.1.id, .int .i64 m_.1.id, .int .i64 m_.2.2.id, .int .i64 m_.2.1.id, .int .i64 m_.2.2.id]), (34, .one (.int .i64 (((2 : Nat) : Int)))), (8, .one (.int .i64 (((k : Nat) : Int))))] ∧ B = [.blk g14 23 [.int .i64 m_.2.1.id, .int .i64 m_.2.2.id], .row q8 23 2 (O7.map edL), .blk g 54 [c0, c1, c2, c3, c4, c5, c6, c7, c8, c9, c10, c11, y0, tris ts]]) ?_ ?_
   ·skip
    refine ac_block ?_
    refine ac_pick [3, 7, 12, 13, 14, 33, 34, 8] rfl ?_
    refine ac_loop (fun m L B => ∃ k, k ≤ O7.length ∧ posE (m_.2.1.id, m_.2.2.id) O7 = k + posE (m_.2.1.id, m_.2.2.id) (O7.drop k) ∧ m = O7.length - k ∧ L = [(3, .one (.orow q8 2 0 O7.length)), (7, .one (.ow g14 0)), (12, .one (tris ts)), (13, .one (.int .i64 (((ts.length : Nat) : Int)))), (14, .one (.int .i64 (((i : Nat) : Int)))), (33, .agg [.int .i64 m_.1.id, .int .i64 m_.2.1.id, .int .i64 m_.1.id, .int .i64 m_.2.2.id, .int .i64 m_.2.1.id, .int .i64 m_.2.2.id]), (34, .one (.int .i64 (((2 : Nat) : Int)))), (8, .one (.int .i64 (((k : Nat) : Int))))] ∧ B = [.blk g14 23 [.int .i64 m_.2.1.id, .int .i64 m_.2.2.id], .row q8 23 2 (O7.map edL), .blk g 54 [c0, c1, c2, c3, c4, c5, c6, c7, c8, c9, c10, c11, y0, tris ts]]) (m := _) ⟨0, Nat.zero_le _, by rw [Nat.zero_add, List.drop_zero], rfl, rfl, rfl⟩ ?_
    rintro m L B ⟨k, hq0, hq1, hm, rfl, rfl⟩
    by_cases h6 : k < O7.length
    ·obtain ⟨x, hx⟩ : ∃ x, O7[k]? = some x := ⟨_, List.getElem?_eq_getElem h6⟩
     by_cases h8 : x.1 < m_.2.1.id
     ·have hls : lessE x (m_.2.1.id, m_.2.2.id) = true := by simp [lessE, h8]
      refine ac_seq (ac_seq ?_)
      refine ac_draw mixed_ 30 [37, 38, 39, 40, 41, 42, 43, 44, 45, 46, 47, 48, 49, 50, 51, 52, 53, 54, 55, 56, 57, 58, 59, 60, 61, 62, 63, 64, 65, 66] [[], [], [1], [0, 2], [3], [4], [4], [4, 5, 6], [4, 7], [4, 8], [4], [4, 10], [4, 9, 11], [4, 12], [13], [13], [13, 14, 15], [13, 16], [13, 17], [13], [13, 19], [13, 18, 20], [13, 21], [22], [22], [22, 23, 24], [22, 25], [22, 26], [22], [22, 28]] [.one (.int .i64 (((k : Nat) : Int))), .one (.orow q8 2 0 O7.length), .one (.int .i64 (((O7.length : Nat) : Int))), .one (.bool ((decide ((((k : Nat) : Int)) < (((O7.length : Nat) : Int)))))), .one (.bool ((decide ((((k : Nat) : Int)) < (((O7.length : Nat) : Int)))))), .one (.orow q8 2 0 O7.length), .one (.int .i64 (((k : Nat) : Int))), .one (.oel q8 2 ((0 + k)) 0), .one (.oel q8 2 ((0 + k)) 0), .one (.int .i64 x.1), .one (.ow g14 0), .one (.int .i64 m_.2.1.id), .one (.bool ((decide (x.1 < m_.2.1.id)))), .one (.bool ((decide (x.1 < m_.2.1.id)))), .tup [], .tup [], .tup [], .tup [], .tup [], .tup [], .tup [], .tup [], .tup [], .tup [], .tup [], .tup [], .tup [], .tup [], .tup [], .tup []] rfl rfl rfl ⟨p_move rfl rfl, p_move rfl rfl, p_len (m := O7.length) Tryz.runUnderlying24 rfl (rfl) rfl, p_cmp rfl rfl rfl rfl, p_move rfl rfl, (p_grun rfl rfl (decide_eq_true (by omega)) (p_move rfl rfl)), (p_grun rfl rfl (decide_eq_true (by omega)) (p_move rfl rfl)), (p_grun rfl rfl (decide_eq_true (by omega)) (p_indexO (k) Tryz.runUnderlying24 Tryz.sizeOf23 rfl rfl (rfl) (by omega) rfl)), (p_grun rfl rfl (decide_eq_true (by omega)) (p_indexArrO 0 Tryz.runUnderlying23 Tryz.sizeOf3 rfl rfl rfl (by decide) rfl)), (p_grun rfl rfl (decide_eq_true (by omega)) (p_loadO 1 Tryz.isAgg3 Tryz.sizeOf3 rfl rfl (by rw [Nat.zero_add]; exact map_get hx) rfl rfl rfl)), (p_grun rfl rfl (decide_eq_true (by omega)) (p_indexArrOw 0 Tryz.runUnderlying23 Tryz.sizeOf3 rfl rfl rfl (by decide) rfl)), (p_grun rfl rfl (decide_eq_true (by omega)) (p_loadOw 0 Tryz.isAgg3 Tryz.sizeOf3 rfl rfl rfl rfl rfl)), (p_grun rfl rfl (decide_eq_true (by omega)) (p_cmp rfl rfl rfl rfl)), (p_grun rfl rfl (decide_eq_true (by omega)) (p_move rfl rfl)), p_gskipU rfl rfl (decide_eq_true h8) rfl, p_gskipU rfl rfl (decide_eq_true h8) rfl, p_gskipU rfl rfl (decide_eq_true h8) rfl, p_gskipU rfl rfl (decide_eq_true h8) rfl, p_gskipU rfl rfl (decide_eq_true h8) rfl, p_gskipU rfl rfl (decide_eq_true h8) rfl, p_gskipU rfl rfl (decide_eq_true h8) rfl, p_gskipU rfl rfl (decide_eq_true h8) rfl, p_gskipU rfl rfl (decide_eq_true h8) rfl, p_gskip2 rfl rfl rfl, p_gskip2 rfl rfl rfl, p_gskip2 rfl rfl rfl, p_gskip2 rfl rfl rfl, p_gskip2 rfl rfl rfl, p_gskip2 rfl rfl rfl, p_gskip2 rfl rfl rfl, trivial⟩ rfl ?_
      refine w_ (p_gskip2 rfl rfl rfl) ?_
      refine w_ (p_gskipU rfl rfl (decide_eq_true h8) rfl) ?_
      refine w_ ((p_grun rfl rfl (decide_eq_true (by omega)) (p_pickT rfl (decide_eq_true h8) rfl rfl))) ?_
      refine w_ (p_pickT rfl (decide_eq_true (by omega)) rfl rfl) ?_
      refine aw_nil ?_
      refine ac_t rfl (rfl) ?_
      refine ac_skip ?_
      refine ac_block (ac_reg ?_)
      refine w_ (p_move rfl rfl) ?_
      refine w_ (p_add (r := ((k + 1 : Nat) : Int)) rfl rfl (i64_is (by omega) (by omega)) rfl) ?_
      refine w_ (p_assign rfl rfl) ?_
      refine aw_pick [3, 7, 12, 13, 14, 33, 34, 8] rfl ?_
      refine aw_nil ?_
      refine ⟨_, ?_, k + 1, by omega, by rw [hq1, posE_on hx hls]; omega, rfl, rfl, rfl⟩
      omega
     by_cases h9 : x.1 = m_.2.1.id
     ·by_cases h10 : x.2 < m_.2.2.id
      ·have hls : lessE x (m_.2.1.id, m_.2.2.id) = true := by simp [lessE, h8, h9, h10]
       refine ac_seq (ac_seq ?_)
       refine ac_draw mixed_ 30 [37, 38, 39, 40, 41, 42, 43, 44, 45, 46, 47, 48, 49, 50, 51, 52, 53, 54, 55, 56, 57, 58, 59, 60, 61, 62, 63, 64, 65, 66] [[], [], [1], [0, 2], [3], [4], [4], [4, 5, 6], [4, 7], [4, 8], [4], [4, 10], [4, 9, 11], [4, 12], [13], [13], [13, 14, 15], [13, 16], [13, 17], [13], [13, 19], [13, 18, 20], [13, 21], [22], [22], [22, 23, 24], [22, 25], [22, 26], [22], [22, 28]] [.one (.int .i64 (((k : Nat) : Int))), .one (.orow q8 2 0 O7.length), .one (.int .i64 (((O7.length : Nat) : Int))), .one (.bool ((decide ((((k : Nat) : Int)) < (((O7.length : Nat) : Int)))))), .one (.bool ((decide ((((k : Nat) : Int)) < (((O7.length : Nat) : Int)))))), .one (.orow q8 2 0 O7.length), .one (.int .i64 (((k : Nat) : Int))), .one (.oel q8 2 ((0 + k)) 0), .one (.oel q8 2 ((0 + k)) 0), .one (.int .i64 x.1), .one (.ow g14 0), .one (.int .i64 m_.2.1.id), .one (.bool ((decide (x.1 < m_.2.1.id)))), .one (.bool ((decide (x.1 < m_.2.1.id)))), .one (.orow q8 2 0 O7.length), .one (.int .i64 (((k : Nat) : Int))), .one (.oel q8 2 ((0 + k)) 0), .one (.oel q8 2 ((0 + k)) 0), .one (.int .i64 x.1), .one (.ow g14 0), .one (.int .i64 m_.2.1.id), .one (.bool ((decide (x.1 = m_.2.1.id)))), .one (.bool ((decide (x.1 = m_.2.1.id)))), .one (.orow q8 2 0 O7.length), .one (.int .i64 (((k : Nat) : Int))), .one (.oel q8 2 ((0 + k)) 0), .one (.oel q8 2 ((0 + k)) 1), .one (.int .i64 x.2), .one (.ow g14 1), .one (.int .i64 m_.2.2.id)] rfl rfl rfl ⟨p_move rfl rfl, p_move rfl rfl, p_len (m := O7.length) Tryz.runUnderlying24 rfl (rfl) rfl, p_cmp rfl rfl rfl rfl, p_move rfl rfl, (p_grun rfl rfl (decide_eq_true (by omega)) (p_move rfl rfl)), (p_grun rfl rfl (decide_eq_true (by omega)) (p_move rfl rfl)), (p_grun rfl rfl (decide_eq_true (by omega)) (p_indexO (k) Tryz.runUnderlying24 Tryz.sizeOf23 rfl rfl (rfl) (by omega) rfl)), (p_grun rfl rfl (decide_eq_true (by omega)) (p_indexArrO 0 Tryz.runUnderlying23 Tryz.sizeOf3 rfl rfl rfl (by decide) rfl)), (p_grun rfl rfl (decide_eq_true (by omega)) (p_loadO 1 Tryz.isAgg3 Tryz.sizeOf3 rfl rfl (by rw [Nat.zero_add]; exact map_get hx) rfl rfl rfl)), (p_grun rfl rfl (decide_eq_true (by omega)) (p_indexArrOw 0 Tryz.runUnderlying23 Tryz.sizeOf3 rfl rfl rfl (by decide) rfl)), (p_grun rfl rfl (decide_eq_true (by omega)) (p_loadOw 0 Tryz.isAgg3 Tryz.sizeOf3 rfl rfl rfl rfl rfl)), (p_grun rfl rfl (decide_eq_true (by omega)) (p_cmp rfl rfl rfl rfl)), (p_grun rfl rfl (decide_eq_true (by omega)) (p_move rfl rfl)), (p_grun rfl rfl (decide_eq_false h8) (p_move rfl rfl)), (p_grun rfl rfl (decide_eq_false h8) (p_move rfl rfl)), (p_grun rfl rfl (decide_eq_false h8) (p_indexO (k) Tryz.runUnderlying24 Tryz.sizeOf23 rfl rfl (rfl) (by omega) rfl)), (p_grun rfl rfl (decide_eq_false h8) (p_indexArrO 0 Tryz.runUnderlying23 Tryz.sizeOf3 rfl rfl rfl (by decide) rfl)), (p_grun rfl rfl (decide_eq_false h8) (p_loadO 1 Tryz.isAgg3 Tryz.sizeOf3 rfl rfl (by rw [Nat.zero_add]; exact map_get hx) rfl rfl rfl)), (p_grun rfl rfl (decide_eq_false h8) (p_indexArrOw 0 Tryz.runUnderlying23 Tryz.sizeOf3 rfl rfl rfl (by decide) rfl)), (p_grun rfl rfl (decide_eq_false h8) (p_loadOw 0 Tryz.isAgg3 Tryz.sizeOf3 rfl rfl rfl rfl rfl)), (p_grun rfl rfl (decide_eq_false h8) (p_cmp rfl rfl rfl rfl)), (p_grun rfl rfl (decide_eq_false h8) (p_move rfl rfl)), (p_grun rfl rfl (decide_eq_true h9) (p_move rfl rfl)), (p_grun rfl rfl (decide_eq_true h9) (p_move rfl rfl)), (p_grun rfl rfl (decide_eq_true h9) (p_indexO (k) Tryz.runUnderlying24 Tryz.sizeOf23 rfl rfl (rfl) (by omega) rfl)), (p_grun rfl rfl (decide_eq_true h9) (p_indexArrO 1 Tryz.runUnderlying23 Tryz.sizeOf3 rfl rfl rfl (by decide) rfl)), (p_grun rfl rfl (decide_eq_true h9) (p_loadO 1 Tryz.isAgg3 Tryz.sizeOf3 rfl rfl (by rw [Nat.zero_add]; exact map_get hx) rfl rfl rfl)), (p_grun rfl rfl (decide_eq_true h9) (p_indexArrOw 1 Tryz.runUnderlying23 Tryz.sizeOf3 rfl rfl rfl (by decide) rfl)), (p_grun rfl rfl (decide_eq_true h9) (p_loadOw 0 Tryz.isAgg3 Tryz.sizeOf3 rfl rfl rfl rfl rfl)), trivial⟩ rfl ?_
       refine w_ ((p_grun rfl rfl (decide_eq_true h9) (p_cmp rfl rfl rfl rfl))) ?_
       refine w_ ((p_grun rfl rfl (decide_eq_false h8) (p_pickT rfl (decide_eq_true h9) rfl rfl))) ?_
       refine w_ ((p_grun rfl rfl (decide_eq_true (by omega)) (p_pickF rfl (decide_eq_false h8) rfl rfl))) ?_
       refine w_ (p_pickT rfl (decide_eq_true (by omega)) rfl rfl) ?_
       refine aw_nil ?_
       refine ac_t rfl (decide_eq_true h10) ?_
       refine ac_skip ?_
       refine ac_block (ac_reg ?_)
       refine w_ (p_move rfl rfl) ?_
       refine w_ (p_add (r := ((k + 1 : Nat) : Int)) rfl rfl (i64_is (by omega) (by omega)) rfl) ?_
       refine w_ (p_assign rfl rfl) ?_
       refine aw_pick [3, 7, 12, 13, 14, 33, 34, 8] rfl ?_
       refine aw_nil ?_
       refine ⟨_, ?_, k + 1, by omega, by rw [hq1, posE_on hx hls]; omega, rfl, rfl, rfl⟩
       omega
      have hls : lessE x (m_.2.1.id, m_.2.2.id) = false := by simp [lessE, h8, h9, h10]
      have hpE : posE (m_.2.1.id, m_.2.2.id) O7 = k := by rw [hq1, posE_off hx hls]; rfl
      refine ac_seq (ac_seq ?_)
      refine ac_draw mixed_ 30 [37, 38, 39, 40, 41, 42, 43, 44, 45, 46, 47, 48, 49, 50, 51, 52, 53, 54, 55, 56, 57, 58, 59, 60, 61, 62, 63, 64, 65, 66] [[], [], [1], [0, 2], [3], [4], [4], [4, 5, 6], [4, 7], [4, 8], [4], [4, 10], [4, 9, 11], [4, 12], [13], [13], [13, 14, 15], [13, 16], [13, 17], [13], [13, 19], [13, 18, 20], [13, 21], [22], [22], [22, 23, 24], [22, 25], [22, 26], [22], [22, 28]] [.one (.int .i64 (((k : Nat) : Int))), .one (.orow q8 2 0 O7.length), .one (.int .i64 (((O7.length : Nat) : Int))), .one (.bool ((decide ((((k : Nat) : Int)) < (((O7.length : Nat) : Int)))))), .one (.bool ((decide ((((k : Nat) : Int)) < (((O7.length : Nat) : Int)))))), .one (.orow q8 2 0 O7.length), .one (.int .i64 (((k : Nat) : Int))), .one (.oel q8 2 ((0 + k)) 0), .one (.oel q8 2 ((0 + k)) 0), .one (.int .i64 x.1), .one (.ow g14 0), .one (.int .i64 m_.2.1.id), .one (.bool ((decide (x.1 < m_.2.1.id)))), .one (.bool ((decide (x.1 < m_.2.1.id)))), .one (.orow q8 2 0 O7.length), .one (.int .i64 (((k : Nat) : Int))), .one (.oel q8 2 ((0 + k)) 0), .one (.oel q8 2 ((0 + k)) 0), .one (.int .i64 x.1), .one (.ow g14 0), .one (.int .i64 m_.2.1.id), .one (.bool ((decide (x.1 = m_.2.1.id)))), .one (.bool ((decide (x.1 = m_.2.1.id)))), .one (.orow q8 2 0 O7.length), .one (.int .i64 (((k : Nat) : Int))), .one (.oel q8 2 ((0 + k)) 0), .one (.oel q8 2 ((0 + k)) 1), .one (.int .i64 x.2), .one (.ow g14 1), .one (.int .i64 m_.2.2.id)] rfl rfl rfl ⟨p_move rfl rfl, p_move rfl rfl, p_len (m := O7.length) Tryz.runUnderlying24 rfl (rfl) rfl, p_cmp rfl rfl rfl rfl, p_move rfl rfl, (p_grun rfl rfl (decide_eq_true (by omega)) (p_move rfl rfl)), (p_grun rfl rfl (decide_eq_true (by omega)) (p_move rfl rfl)), (p_grun rfl rfl (decide_eq_true (by omega)) (p_indexO (k) Tryz.runUnderlying24 Tryz.sizeOf23 rfl rfl (rfl) (by omega) rfl)), (p_grun rfl rfl (decide_eq_true (by omega)) (p_indexArrO 0 Tryz.runUnderlying23 Tryz.sizeOf3 rfl rfl rfl (by decide) rfl)), (p_grun rfl rfl (decide_eq_true (by omega)) (p_loadO 1 Tryz.isAgg3 Tryz.sizeOf3 rfl rfl (by rw [Nat.zero_add]; exact map_get hx) rfl rfl rfl)), (p_grun rfl rfl (decide_eq_true (by omega)) (p_indexArrOw 0 Tryz.runUnderlying23 Tryz.sizeOf3 rfl rfl rfl (by decide) rfl)), (p_grun rfl rfl (decide_eq_true (by omega)) (p_loadOw 0 Tryz.isAgg3 Tryz.sizeOf3 rfl rfl rfl rfl rfl)), (p_grun rfl rfl (decide_eq_true (by omega)) (p_cmp rfl rfl rfl rfl)), (p_grun rfl rfl (decide_eq_true (by omega)) (p_move rfl rfl)), (p_grun rfl rfl (decide_eq_false h8) (p_move rfl rfl)), (p_grun rfl rfl (decide_eq_false h8) (p_move rfl rfl)), (p_grun rfl rfl (decide_eq_false h8) (p_indexO (k) Tryz.runUnderlying24 Tryz.sizeOf23 rfl rfl (rfl) (by omega) rfl)), (p_grun rfl rfl (decide_eq_false h8) (p_indexArrO 0 Tryz.runUnderlying23 Tryz.sizeOf3 rfl rfl rfl (by decide) rfl)), (p_grun rfl rfl (decide_eq_false h8) (p_loadO 1 Tryz.isAgg3 Tryz.sizeOf3 rfl rfl (by rw [Nat.zero_add]; exact map_get hx) rfl rfl rfl)), (p_grun rfl rfl (decide_eq_false h8) (p_indexArrOw 0 Tryz.runUnderlying23 Tryz.sizeOf3 rfl rfl rfl (by decide) rfl)), (p_grun rfl rfl (decide_eq_false h8) (p_loadOw 0 Tryz.isAgg3 Tryz.sizeOf3 rfl rfl rfl rfl rfl)), (p_grun rfl rfl (decide_eq_false h8) (p_cmp rfl rfl rfl rfl)), (p_grun rfl rfl (decide_eq_false h8) (p_move rfl rfl)), (p_grun rfl rfl (decide_eq_true h9) (p_move rfl rfl)), (p_grun rfl rfl (decide_eq_true h9) (p_move rfl rfl)), (p_grun rfl rfl (decide_eq_true h9) (p_indexO (k) Tryz.runUnderlying24 Tryz.sizeOf23 rfl rfl (rfl) (by omega) rfl)), (p_grun rfl rfl (decide_eq_true h9) (p_indexArrO 1 Tryz.runUnderlying23 Tryz.sizeOf3 rfl rfl rfl (by decide) rfl)), (p_grun rfl rfl (decide_eq_true h9) (p_loadO 1 Tryz.isAgg3 Tryz.sizeOf3 rfl rfl (by rw [Nat.zero_add]; exact map_get hx) rfl rfl rfl)), (p_grun rfl rfl (decide_eq_true h9) (p_indexArrOw 1 Tryz.runUnderlying23 Tryz.sizeOf3 rfl rfl rfl (by decide) rfl)), (p_grun rfl rfl (decide_eq_true h9) (p_loadOw 0 Tryz.isAgg3 Tryz.sizeOf3 rfl rfl rfl rfl rfl)), trivial⟩ rfl ?_
      refine w_ ((p_grun rfl rfl (decide_eq_true h9) (p_cmp rfl rfl rfl rfl))) ?_
      refine w_ ((p_grun rfl rfl (decide_eq_false h8) (p_pickT rfl (decide_eq_true h9) rfl rfl))) ?_
      refine w_ ((p_grun rfl rfl (decide_eq_true (by omega)) (p_pickF rfl (decide_eq_false h8) rfl rfl))) ?_
      refine w_ (p_pickT rfl (decide_eq_true (by omega)) rfl rfl) ?_
      refine aw_nil ?_
      refine ac_f rfl (decide_eq_false h10) ?_
      refine ac_pick [3, 7, 12, 13, 14, 33, 34, 8] rfl ?_
      refine ac_exit ?_
      repeat refine seqQ_exit ?_
      refine blkQ_here ?_
      exact ⟨k, hq0, hpE, rfl, rfl⟩
     have hls : lessE x (m_.2.1.id, m_.2.2.id) = false := by simp [lessE, h8, h9]
     have hpE : posE (m_.2.1.id, m_.2.2.id) O7 = k := by rw [hq1, posE_off hx hls]; rfl
     refine ac_seq (ac_seq ?_)
     refine ac_draw mixed_ 30 [37, 38, 39, 40, 41, 42, 43, 44, 45, 46, 47, 48, 49, 50, 51, 52, 53, 54, 55, 56, 57, 58, 59, 60, 61, 62, 63, 64, 65, 66] [[], [], [1], [0, 2], [3], [4], [4], [4, 5, 6], [4, 7], [4, 8], [4], [4, 10], [4, 9, 11], [4, 12], [13], [13], [13, 14, 15], [13, 16], [13, 17], [13], [13, 19], [13, 18, 20], [13, 21], [22], [22], [22, 23, 24], [22, 25], [22, 26], [22], [22, 28]] [.one (.int .i64 (((k : Nat) : Int))), .one (.orow q8 2 0 O7.length), .one (.int .i64 (((O7.length : Nat) : Int))), .one (.bool ((decide ((((k : Nat) : Int)) < (((O7.length : Nat) : Int)))))), .one (.bool ((decide ((((k : Nat) : Int)) < (((O7.length : Nat) : Int)))))), .one (.orow q8 2 0 O7.length), .one (.int .i64 (((k : Nat) : Int))), .one (.oel q8 2 ((0 + k)) 0), .one (.oel q8 2 ((0 + k)) 0), .one (.int .i64 x.1), .one (.ow g14 0), .one (.int .i64 m_.2.1.id), .one (.bool ((decide (x.1 < m_.2.1.id)))), .one (.bool ((decide (x.1 < m_.2.1.id)))), .one (.orow q8 2 0 O7.length), .one (.int .i64 (((k : Nat) : Int))), .one (.oel q8 2 ((0 + k)) 0), .one (.oel q8 2 ((0 + k)) 0), .one (.int .i64 x.1), .one (.ow g14 0), .one (.int .i64 m_.2.1.id), .one (.bool ((decide (x.1 = m_.2.1.id)))), .one (.bool ((decide (x.1 = m_.2.1.id)))), .tup [], .tup [], .tup [], .tup [], .tup [], .tup [], .tup []] rfl rfl rfl ⟨p_move rfl rfl, p_move rfl rfl, p_len (m := O7.length) Tryz.runUnderlying24 rfl (rfl) rfl, p_cmp rfl rfl rfl rfl, p_move rfl rfl, (p_grun rfl rfl (decide_eq_true (by omega)) (p_move rfl rfl)), (p_grun rfl rfl (decide_eq_true (by omega)) (p_move rfl rfl)), (p_grun rfl rfl (decide_eq_true (by omega)) (p_indexO (k) Tryz.runUnderlying24 Tryz.sizeOf23 rfl rfl (rfl) (by omega) rfl)), (p_grun rfl rfl (decide_eq_true (by omega)) (p_indexArrO 0 Tryz.runUnderlying23 Tryz.sizeOf3 rfl rfl rfl (by decide) rfl)), (p_grun rfl rfl (decide_eq_true (by omega)) (p_loadO 1 Tryz.isAgg3 Tryz.sizeOf3 rfl rfl (by rw [Nat.zero_add]; exact map_get hx) rfl rfl rfl)), (p_grun rfl rfl (decide_eq_true (by omega)) (p_indexArrOw 0 Tryz.runUnderlying23 Tryz.sizeOf3 rfl rfl rfl (by decide) rfl)), (p_grun rfl rfl (decide_eq_true (by omega)) (p_loadOw 0 Tryz.isAgg3 Tryz.sizeOf3 rfl rfl rfl rfl rfl)), (p_grun rfl rfl (decide_eq_true (by omega)) (p_cmp rfl rfl rfl rfl)), (p_grun rfl rfl (decide_eq_true (by omega)) (p_move rfl rfl)), (p_grun rfl rfl (decide_eq_false h8) (p_move rfl rfl)), (p_grun rfl rfl (decide_eq_false h8) (p_move rfl rfl)), (p_grun rfl rfl (decide_eq_false h8) (p_indexO (k) Tryz.runUnderlying24 Tryz.sizeOf23 rfl rfl (rfl) (by omega) rfl)), (p_grun rfl rfl (decide_eq_false h8) (p_indexArrO 0 Tryz.runUnderlying23 Tryz.sizeOf3 rfl rfl rfl (by decide) rfl)), (p_grun rfl rfl (decide_eq_false h8) (p_loadO 1 Tryz.isAgg3 Tryz.sizeOf3 rfl rfl (by rw [Nat.zero_add]; exact map_get hx) rfl rfl rfl)), (p_grun rfl rfl (decide_eq_false h8) (p_indexArrOw 0 Tryz.runUnderlying23 Tryz.sizeOf3 rfl rfl rfl (by decide) rfl)), (p_grun rfl rfl (decide_eq_false h8) (p_loadOw 0 Tryz.isAgg3 Tryz.sizeOf3 rfl rfl rfl rfl rfl)), (p_grun rfl rfl (decide_eq_false h8) (p_cmp rfl rfl rfl rfl)), (p_grun rfl rfl (decide_eq_false h8) (p_move rfl rfl)), p_gskipU rfl rfl (decide_eq_false h9) rfl, p_gskipU rfl rfl (decide_eq_false h9) rfl, p_gskipU rfl rfl (decide_eq_false h9) rfl, p_gskipU rfl rfl (decide_eq_false h9) rfl, p_gskipU rfl rfl (decide_eq_false h9) rfl, p_gskipU rfl rfl (decide_eq_false h9) rfl, p_gskipU rfl rfl (decide_eq_false h9) rfl, trivial⟩ rfl ?_
     refine w_ (p_gskipU rfl rfl (decide_eq_false h9) rfl) ?_
     refine w_ ((p_grun rfl rfl (decide_eq_false h8) (p_pickF rfl (decide_eq_false h9) rfl rfl))) ?_
     refine w_ ((p_grun rfl rfl (decide_eq_true (by omega)) (p_pickF rfl (decide_eq_false h8) rfl rfl))) ?_
     refine w_ (p_pickT rfl (decide_eq_true (by omega)) rfl rfl) ?_
     refine aw_nil ?_
     refine ac_f rfl (rfl) ?_
     refine ac_pick [3, 7, 12, 13, 14, 33, 34, 8] rfl ?_
     refine ac_exit ?_
     repeat refine seqQ_exit ?_
     refine blkQ_here ?_
     exact ⟨k, hq0, hpE, rfl, rfl⟩
    have hpE : posE (m_.2.1.id, m_.2.2.id) O7 = k := by rw [hq1, posE_end h6]; rfl
    refine ac_seq (ac_seq ?_)
    refine ac_draw mixed_ 30 [37, 38, 39, 40, 41, 42, 43, 44, 45, 46, 47, 48, 49, 50, 51, 52, 53, 54, 55, 56, 57, 58, 59, 60, 61, 62, 63, 64, 65, 66] [[], [], [1], [0, 2], [3], [4], [4], [4, 5, 6], [4, 7], [4, 8], [4], [4, 10], [4, 9, 11], [4, 12], [13], [13], [13, 14, 15], [13, 16], [13, 17], [13], [13, 19], [13, 18, 20], [13, 21], [22], [22], [22, 23, 24], [22, 25], [22, 26], [22], [22, 28]] [.one (.int .i64 (((k : Nat) : Int))), .one (.orow q8 2 0 O7.length), .one (.int .i64 (((O7.length : Nat) : Int))), .one (.bool ((decide ((((k : Nat) : Int)) < (((O7.length : Nat) : Int)))))), .one (.bool ((decide ((((k : Nat) : Int)) < (((O7.length : Nat) : Int)))))), .tup [], .tup [], .tup [], .tup [], .tup [], .tup [], .tup [], .tup [], .tup [], .tup [], .tup [], .tup [], .tup [], .tup [], .tup [], .tup [], .tup [], .tup [], .tup [], .tup [], .tup [], .tup [], .tup [], .tup [], .tup []] rfl rfl rfl ⟨p_move rfl rfl, p_move rfl rfl, p_len (m := O7.length) Tryz.runUnderlying24 rfl (rfl) rfl, p_cmp rfl rfl rfl rfl, p_move rfl rfl, p_gskipU rfl rfl (decide_eq_false (by omega)) rfl, p_gskipU rfl rfl (decide_eq_false (by omega)) rfl, p_gskipU rfl rfl (decide_eq_false (by omega)) rfl, p_gskipU rfl rfl (decide_eq_false (by omega)) rfl, p_gskipU rfl rfl (decide_eq_false (by omega)) rfl, p_gskipU rfl rfl (decide_eq_false (by omega)) rfl, p_gskipU rfl rfl (decide_eq_false (by omega)) rfl, p_gskipU rfl rfl (decide_eq_false (by omega)) rfl, p_gskipU rfl rfl (decide_eq_false (by omega)) rfl, p_gskip2 rfl rfl rfl, p_gskip2 rfl rfl rfl, p_gskip2 rfl rfl rfl, p_gskip2 rfl rfl rfl, p_gskip2 rfl rfl rfl, p_gskip2 rfl rfl rfl, p_gskip2 rfl rfl rfl, p_gskip2 rfl rfl rfl, p_gskip2 rfl rfl rfl, p_gskip2 rfl rfl rfl, p_gskip2 rfl rfl rfl, p_gskip2 rfl rfl rfl, p_gskip2 rfl rfl rfl, p_gskip2 rfl rfl rfl, p_gskip2 rfl rfl rfl, p_gskip2 rfl rfl rfl, trivial⟩ rfl ?_
    refine w_ (p_gskip2 rfl rfl rfl) ?_
    refine w_ (p_gskip2 rfl rfl rfl) ?_
    refine w_ (p_gskipU rfl rfl (decide_eq_false (by omega)) rfl) ?_
    refine w_ (p_pickF rfl (decide_eq_false (by omega)) rfl rfl) ?_
    refine aw_nil ?_
    refine ac_f rfl (rfl) ?_
    refine ac_pick [3, 7, 12, 13, 14, 33, 34, 8] rfl ?_
    refine ac_exit ?_
    repeat refine seqQ_exit ?_
    refine blkQ_here ?_
    exact ⟨k, hq0, hpE, rfl, rfl⟩
   rintro L B ⟨k, hp0, hp1, rfl, rfl⟩
   have hE0 := hp0
   have hE1 := hp1
   by_cases h7 : O7[k]? = some (m_.2.1.id, m_.2.2.id)
   ·have h11 := (List.getElem?_eq_some_iff.1 h7).1
    refine ac_seq (ac_seq ?_)
    refine ac_draw mixed_ 10 [73, 74, 75, 76, 77, 78, 79, 80, 81, 82] [[], [], [1], [0, 2], [3], [4], [4], [4, 5, 6], [4, 7], [4]] [.one (.int .i64 (((k : Nat) : Int))), .one (.orow q8 2 0 O7.length), .one (.int .i64 (((O7.length : Nat) : Int))), .one (.bool ((decide ((((k : Nat) : Int)) < (((O7.length : Nat) : Int)))))), .one (.bool ((decide ((((k : Nat) : Int)) < (((O7.length : Nat) : Int)))))), .one (.orow q8 2 0 O7.length), .one (.int .i64 (((k : Nat) : Int))), .one (.oel q8 2 ((0 + k)) 0), .agg [.int .i64 m_.2.1.id, .int .i64 m_.2.2.id], .agg [.int .i64 m_.2.1.id, .int .i64 m_.2.2.id]] rfl rfl rfl ⟨p_move rfl rfl, p_move rfl rfl, p_len (m := O7.length) Tryz.runUnderlying24 rfl (rfl) rfl, p_cmp rfl rfl rfl rfl, p_move rfl rfl, (p_grun rfl rfl (decide_eq_true (by omega)) (p_move rfl rfl)), (p_grun rfl rfl (decide_eq_true (by omega)) (p_move rfl rfl)), (p_grun rfl rfl (decide_eq_true (by omega)) (p_indexO (k) Tryz.runUnderlying24 Tryz.sizeOf23 rfl rfl (rfl) (by omega) rfl)), (p_grun rfl rfl (decide_eq_true (by omega)) (p_loadO 1 Tryz.isAgg23 Tryz.sizeOf23 rfl rfl (by rw [Nat.zero_add]; exact map_get h7) rfl rfl rfl)), (p_grun rfl rfl (decide_eq_true (by omega)) (p_loadOw 0 Tryz.isAgg23 Tryz.sizeOf23 rfl rfl rfl rfl rfl)), trivial⟩ rfl ?_
    refine w_ ((p_grun rfl rfl (decide_eq_true (by omega)) (p_eqV (r := (decide (([m_.2.1.id, m_.2.2.id] : List Int) = [m_.2.1.id, m_.2.2.id]))) [m_.2.1.id, m_.2.2.id] [m_.2.1.id, m_.2.2.id] Tryz.eqGuardType23 (eqT_23 _ _ rfl rfl) rfl rfl rfl rfl (rfl) rfl))) ?_
    refine w_ (p_pickT rfl (decide_eq_true (by omega)) rfl rfl) ?_
    refine aw_nil ?_
    refine ac_t rfl (decide_eq_true rfl) ?_
    refine ac_pick [12, 13, 14, 33, 34, 3] rfl ?_
    refine ac_drop 0 rfl ?_
    refine ac_exit ?_
    repeat refine seqQ_exit ?_
    refine blkQ_here ?_
    exact ⟨q8, O7, by rw [insE, hE1, if_pos h7], by omega, rfl, rfl⟩
   by_cases h11 : k < O7.length
   ·obtain ⟨x, hx⟩ : ∃ x, O7[k]? = some x := ⟨_, List.getElem?_eq_getElem h11⟩
    refine ac_seq (ac_seq ?_)
    refine ac_draw mixed_ 10 [73, 74, 75, 76, 77, 78, 79, 80, 81, 82] [[], [], [1], [0, 2], [3], [4], [4], [4, 5, 6], [4, 7], [4]] [.one (.int .i64 (((k : Nat) : Int))), .one (.orow q8 2 0 O7.length), .one (.int .i64 (((O7.length : Nat) : Int))), .one (.bool ((decide ((((k : Nat) : Int)) < (((O7.length : Nat) : Int)))))), .one (.bool ((decide ((((k : Nat) : Int)) < (((O7.length : Nat) : Int)))))), .one (.orow q8 2 0 O7.length), .one (.int .i64 (((k : Nat) : Int))), .one (.oel q8 2 ((0 + k)) 0), .agg [.int .i64 x.1, .int .i64 x.2], .agg [.int .i64 m_.2.1.id, .int .i64 m_.2.2.id]] rfl rfl rfl ⟨p_move rfl rfl, p_move rfl rfl, p_len (m := O7.length) Tryz.runUnderlying24 rfl (rfl) rfl, p_cmp rfl rfl rfl rfl, p_move rfl rfl, (p_grun rfl rfl (decide_eq_true (by omega)) (p_move rfl rfl)), (p_grun rfl rfl (decide_eq_true (by omega)) (p_move rfl rfl)), (p_grun rfl rfl (decide_eq_true (by omega)) (p_indexO (k) Tryz.runUnderlying24 Tryz.sizeOf23 rfl rfl (rfl) (by omega) rfl)), (p_grun rfl rfl (decide_eq_true (by omega)) (p_loadO 1 Tryz.isAgg23 Tryz.sizeOf23 rfl rfl (by rw [Nat.zero_add]; exact map_get hx) rfl rfl rfl)), (p_grun rfl rfl (decide_eq_true (by omega)) (p_loadOw 0 Tryz.isAgg23 Tryz.sizeOf23 rfl rfl rfl rfl rfl)), trivial⟩ rfl ?_
    refine w_ ((p_grun rfl rfl (decide_eq_true (by omega)) (p_eqV (r := (decide (([x.1, x.2] : List Int) = [m_.2.1.id, m_.2.2.id]))) [x.1, x.2] [m_.2.1.id, m_.2.2.id] Tryz.eqGuardType23 (eqT_23 _ _ rfl rfl) rfl rfl rfl rfl (rfl) rfl))) ?_
    refine w_ (p_pickT rfl (decide_eq_true (by omega)) rfl rfl) ?_
    refine aw_nil ?_
    refine ac_f rfl (decide_eq_false (pair_ne hx h7)) ?_
    refine ac_skip ?_
    refine ac_seq (ac_reg ?_)
    refine w_ (p_move rfl rfl) ?_
    refine w_ (p_loadOw 0 Tryz.isAgg23 Tryz.sizeOf23 rfl rfl rfl rfl rfl) ?_
    refine w_ (p_lit Tryz.runUnderlying24 Tryz.sizeOf23 Tryz.zeroValue23 rfl rfl rfl rfl rfl rfl rfl rfl rfl rfl) ?_
    refine a_append (ls2 := (O7.map edL ++ [edL (m_.2.1.id, m_.2.2.id)])) (m2 := O7.length + 1) 1 Tryz.runUnderlying24 Tryz.runUnderlying24 Tryz.typeInfo23 rfl rfl Tryz.sizeOf23 Tryz.zeroValue23 rfl rfl rfl rfl rfl rfl rfl (by rw [List.length_map]; exact Nat.le_refl _) (one_w rfl) (one_f rfl) (by show _ + 1 < _; omega) (by rw [List.take_of_length_le (by rw [List.length_map]; exact Nat.le_refl _)]) (rfl) fun r15 => ?_
    refine w_ (p_assign rfl rfl) ?_
    refine aw_nil ?_
    refine ac_seq ?_
    refine ac_draw mixed_ 7 [89, 90, 91, 92, 93, 94, 95] [[], [], [1], [0, 2], [], [], [4, 5]] [.one (.orow r15 2 0 (O7.length + 1)), .one (.int .i64 (((k : Nat) : Int))), .one (.int .i64 (((k + 1 : Nat) : Int))), .one (.orow r15 2 ((0 + (k + 1))) (((O7.length + 1) - (k + 1)))), .one (.orow r15 2 0 (O7.length + 1)), .one (.int .i64 (((k : Nat) : Int))), .one (.orow r15 2 ((0 + k)) (((O7.length + 1) - k)))] rfl rfl rfl ⟨p_move rfl rfl, p_move rfl rfl, p_add (r := ((k + 1 : Nat) : Int)) rfl rfl (i64_is (by omega) (by omega)) rfl, p_sliceOLo (k + 1) Tryz.runUnderlying24 Tryz.sizeOf23 rfl rfl (rfl) (by omega) rfl, p_move rfl rfl, p_move rfl rfl, p_sliceOLo (k) Tryz.runUnderlying24 Tryz.sizeOf23 rfl rfl (rfl) (by omega) rfl, trivial⟩ rfl ?_
    refine a_copyO (m' := O7.length - k) (ls2 := ((O7.map edL ++ [edL (m_.2.1.id, m_.2.2.id)]).take (0 + (k + 1)) ++ ((O7.map edL ++ [edL (m_.2.1.id, m_.2.2.id)]).drop (0 + k)).take (O7.length - k) ++ (O7.map edL ++ [edL (m_.2.1.id, m_.2.2.id)]).drop (0 + (k + 1) + (O7.length - k)))) 0 Tryz.runUnderlying24 Tryz.sizeOf23 rfl rfl rfl rfl (by simp; omega) (by simp; omega) (by simp) (by show min _ _ = _; omega) (rfl) rfl ?_
    refine aw_nil ?_
    refine ac_reg ?_
    refine w_ (p_move rfl rfl) ?_
    refine w_ (p_move rfl rfl) ?_
    refine w_ (p_loadOw 1 Tryz.isAgg23 Tryz.sizeOf23 rfl rfl rfl rfl rfl) ?_
    refine w_ (p_indexO (k) Tryz.runUnderlying24 Tryz.sizeOf23 rfl rfl (rfl) (by omega) rfl) ?_
    obtain ⟨z0, z1, hz⟩ := twoL (k := 0 + k) (insE_w (O := O7) (z := edL (m_.2.1.id, m_.2.2.id)) (a := 0 + (k + 1)) (b := 0 + k) (m := O7.length - k) (e := 0 + (k + 1) + (O7.length - k)) rfl) (by simp; omega)
    refine a_storeO (ls2 := (insE O7 (m_.2.1.id, m_.2.2.id)).map edL) 0 Tryz.sizeOf23 rfl rfl rfl rfl rfl rfl (hz) rfl (insE_eq hE0 hE1 h7) ?_
    refine aw_slotEq 3 (y := .one (.orow r15 2 0 ((insE O7 (m_.2.1.id, m_.2.2.id)).length))) rfl (by rw [insE_up hE0 hE1 h7]) ?_
    refine aw_pick [12, 13, 14, 33, 34, 3] rfl ?_
    refine aw_drop 1 rfl ?_
    refine aw_nil ?_
    exact ⟨r15, (insE O7 (m_.2.1.id, m_.2.2.id)), rfl, by have := insE_len O7 (m_.2.1.id, m_.2.2.id); omega, rfl, rfl⟩
   skip
   refine ac_seq (ac_seq ?_)
   refine ac_draw mixed_ 10 [73, 74, 75, 76, 77, 78, 79, 80, 81, 82] [[], [], [1], [0, 2], [3], [4], [4], [4, 5, 6], [4, 7], [4]] [.one (.int .i64 (((k : Nat) : Int))), .one (.orow q8 2 0 O7.length), .one (.int .i64 (((O7.length : Nat) : Int))), .one (.bool ((decide ((((k : Nat) : Int)) < (((O7.length : Nat) : Int)))))), .one (.bool ((decide ((((k : Nat) : Int)) < (((O7.length : Nat) : Int)))))), .tup [], .tup [], .tup [], .tup [], .tup []] rfl rfl rfl ⟨p_move rfl rfl, p_move rfl rfl, p_len (m := O7.length) Tryz.runUnderlying24 rfl (rfl) rfl, p_cmp rfl rfl rfl rfl, p_move rfl rfl, p_gskipU rfl rfl (decide_eq_false (by omega)) rfl, p_gskipU rfl rfl (decide_eq_false (by omega)) rfl, p_gskipU rfl rfl (decide_eq_false (by omega)) rfl, p_gskipU rfl rfl (decide_eq_false (by omega)) rfl, p_gskipU rfl rfl (decide_eq_false (by omega)) rfl, trivial⟩ rfl ?_
   refine w_ (p_gskipU rfl rfl (decide_eq_false (by omega)) rfl) ?_
   refine w_ (p_pickF rfl (decide_eq_false (by omega)) rfl rfl) ?_
   refine aw_nil ?_
   refine ac_f rfl (rfl) ?_
   refine ac_skip ?_
   refine ac_seq (ac_reg ?_)
   refine w_ (p_move rfl rfl) ?_
   refine w_ (p_loadOw 0 Tryz.isAgg23 Tryz.sizeOf23 rfl rfl rfl rfl rfl) ?_
   refine w_ (p_lit Tryz.runUnderlying24 Tryz.sizeOf23 Tryz.zeroValue23 rfl rfl rfl rfl rfl rfl rfl rfl rfl rfl) ?_
   refine a_append (ls2 := (O7.map edL ++ [edL (m_.2.1.id, m_.2.2.id)])) (m2 := O7.length + 1) 1 Tryz.runUnderlying24 Tryz.runUnderlying24 Tryz.typeInfo23 rfl rfl Tryz.sizeOf23 Tryz.zeroValue23 rfl rfl rfl rfl rfl rfl rfl (by rw [List.length_map]; exact Nat.le_refl _) (one_w rfl) (one_f rfl) (by show _ + 1 < _; omega) (by rw [List.take_of_length_le (by rw [List.length_map]; exact Nat.le_refl _)]) (rfl) fun r16 => ?_
   refine w_ (p_assign rfl rfl) ?_
   refine aw_nil ?_
   refine ac_seq ?_
   refine ac_draw mixed_ 7 [89, 90, 91, 92, 93, 94, 95] [[], [], [1], [0, 2], [], [], [4, 5]] [.one (.orow r16 2 0 (O7.length + 1)), .one (.int .i64 (((k : Nat) : Int))), .one (.int .i64 (((k + 1 : Nat) : Int))), .one (.orow r16 2 ((0 + (k + 1))) (((O7.length + 1) - (k + 1)))), .one (.orow r16 2 0 (O7.length + 1)), .one (.int .i64 (((k : Nat) : Int))), .one (.orow r16 2 ((0 + k)) (((O7.length + 1) - k)))] rfl rfl rfl ⟨p_move rfl rfl, p_move rfl rfl, p_add (r := ((k + 1 : Nat) : Int)) rfl rfl (i64_is (by omega) (by omega)) rfl, p_sliceOLo (k + 1) Tryz.runUnderlying24 Tryz.sizeOf23 rfl rfl (rfl) (by omega) rfl, p_move rfl rfl, p_move rfl rfl, p_sliceOLo (k) Tryz.runUnderlying24 Tryz.sizeOf23 rfl rfl (rfl) (by omega) rfl, trivial⟩ rfl ?_
   refine a_copyO (m' := O7.length - k) (ls2 := ((O7.map edL ++ [edL (m_.2.1.id, m_.2.2.id)]).take (0 + (k + 1)) ++ ((O7.map edL ++ [edL (m_.2.1.id, m_.2.2.id)]).drop (0 + k)).take (O7.length - k) ++ (O7.map edL ++ [edL (m_.2.1.id, m_.2.2.id)]).drop (0 + (k + 1) + (O7.length - k)))) 0 Tryz.runUnderlying24 Tryz.sizeOf23 rfl rfl rfl rfl (by simp; omega) (by simp; omega) (by simp) (by show min _ _ = _; omega) (rfl) rfl ?_
   refine aw_nil ?_
   refine ac_reg ?_
   refine w_ (p_move rfl rfl) ?_
   refine w_ (p_move rfl rfl) ?_
   refine w_ (p_loadOw 1 Tryz.isAgg23 Tryz.sizeOf23 rfl rfl rfl rfl rfl) ?_
   refine w_ (p_indexO (k) Tryz.runUnderlying24 Tryz.sizeOf23 rfl rfl (rfl) (by omega) rfl) ?_
   obtain ⟨z0, z1, hz⟩ := twoL (k := 0 + k) (insE_w (O := O7) (z := edL (m_.2.1.id, m_.2.2.id)) (a := 0 + (k + 1)) (b := 0 + k) (m := O7.length - k) (e := 0 + (k + 1) + (O7.length - k)) rfl) (by simp; omega)
   refine a_storeO (ls2 := (insE O7 (m_.2.1.id, m_.2.2.id)).map edL) 0 Tryz.sizeOf23 rfl rfl rfl rfl rfl rfl (hz) rfl (insE_eq hE0 hE1 h7) ?_
   refine aw_slotEq 3 (y := .one (.orow r16 2 0 ((insE O7 (m_.2.1.id, m_.2.2.id)).length))) rfl (by rw [insE_up hE0 hE1 h7]) ?_
   refine aw_pick [12, 13, 14, 33, 34, 3] rfl ?_
   refine aw_drop 1 rfl ?_
   refine aw_nil ?_
   exact ⟨r16, (insE O7 (m_.2.1.id, m_.2.2.id)), rfl, by have := insE_len O7 (m_.2.1.id, m_.2.2.id); omega, rfl, rfl⟩
  rintro L B ⟨q13, O12, hp0, hp1, rfl, rfl⟩
  have hO12 := hp0
  have hlO12 := hp1
  have hbO12 : O12.length ≤ 5000 + 3 := by omega
  skip
  refine ac_reg ?_
  refine w_ (p_add (r := ((3 : Nat) : Int)) rfl rfl (rfl) rfl) ?_
  refine w_ (p_move rfl rfl) ?_
  refine aw_nil ?_
  refine ac_round ?_
  refine ac_seq (ac_reg ?_)
  refine w_ (p_cmp (b := false) rfl rfl rfl rfl) ?_
  refine aw_nil ?_
  refine ac_seq ?_
  refine ac_f rfl (rfl) ?_
  refine ac_exit ?_
  repeat refine seqQ_exit ?_
  refine blkQ_here ?_
  refine ac_reg ?_
  refine w_ (p_add (r := ((i + 1 : Nat) : Int)) rfl rfl (i64_is (by omega) (by omega)) rfl) ?_
  refine w_ (p_move rfl rfl) ?_
  refine aw_pick [3, 12, 13, 14] rfl ?_
  refine aw_nil ?_
  refine ⟨_, ?_, i + 1, q13, O12, by omega, by rw [edgesOf_take hm_, ← hiO, edgesT, ← hO2, ← hO7, ← hO12], by omega, rfl, rfl, rfl⟩
  omega
 have hOe : O = edgesOf ts := by rw [hp1, List.take_of_length_le (by omega)]
 refine ac_seq (ac_reg ?_)
 refine w_ (p_cmp rfl rfl rfl rfl) ?_
 refine aw_nil ?_
 refine ac_seq ?_
 refine ac_f rfl (decide_eq_false (by omega)) ?_
 refine ac_exit ?_
 repeat refine seqQ_exit ?_
 refine blkQ_here ?_
 refine ac_seq (ac_reg ?_)
 refine w_ (p_move rfl rfl) ?_
 refine w_ (p_assign rfl rfl) ?_
 refine aw_nil ?_
 refine ac_pub (L2 := _) 0 [2] rfl (allAre1 rfl) (by rw [List.length_map]) (by rw [List.length_map]; omega) rfl ?_
 refine ac_slotEq 2 (y := .one (eds (edgesOf ts))) rfl (by rw [hOe]; rfl) ?_
 refine ac_ret ?_
 exact ⟨_, [], _, rvs_1 Tryz.results9 (rv_tmp rfl rfl), rfl, ⟨rfl, rfl⟩⟩
end Orr
