/- Package poly, told in data. Rational numbers as leaves: plain laws. Curves: plain laws. Points by rising names: plain laws. Signs just after a rational time; predicates: plain laws. Package ratio, told in data. Drawn regions that make memory of their own; literals that are kept. -/
import Derived.Test.YtaffmkgbfgjgeaaGreatPart05
import Derived.Test.YtaffmkgbfgjgeaaGreatPart02
set_option linter.all false

namespace Orr
open Go Go.Proofs
theorem d_Zero {b : Bool} {l : List Nat} : Does Tryz.prog 252 [.agg [.bool b, u32r l]] (.one (.bool (decide (l.length = 0)))) := by
  refine does_ (n := 7) Tryz.func252 rfl Tryz.ntmps252 rfl ?_
  refine ac_seq ?_
  refine ac_reg ?_
  refine w_ (p_boxS rfl rfl rfl rfl) ?_
  refine w_ (p_assign rfl rfl) ?_
  refine aw_nil ?_
  refine ac_seq ?_
  refine ac_reg ?_
  refine w_ (p_fieldSh fa_55_1 rfl rfl rfl) ?_
  refine w_ (p_loadSh Tryz.isAgg53 Tryz.sizeOf53 rfl rfl rfl rfl) ?_
  refine w_ (p_len (m := l.length) Tryz.runUnderlying53 rfl (by simp [rlen, u32r]) rfl) ?_
  refine w_ (p_cmp rfl rfl rfl rfl) ?_
  refine w_ (p_assign rfl rfl) ?_
  refine aw_nil ?_
  refine ac_ret ?_
  exact retB_1 Tryz.results252 (rv_tmp rfl rfl) (by simp)

theorem d_ZeroN (z : Int) : Does Tryz.prog 252 [.agg (ofI z)] (.one (.bool (decide (z = 0)))) := by
  have h := d_Zero (b := decide (z < 0)) (l := limbs z.natAbs)
  rwa [show decide ((limbs z.natAbs).length = 0) = decide (z = 0) from by rw [decide_eq_decide]; exact limbs_nil] at h

theorem d_poly_at {p : List Int} {k : Nat} : Does Tryz.prog 257 [.one (pl p), .one (.int .i64 ((k : Int)))] (.agg [sg (p.getD k 0), mg (p.getD k 0)]) := by
  refine does_ (n := 14) Tryz.func257 rfl Tryz.ntmps257 rfl ?_
  refine ac_seq ?_
  refine ac_reg ?_
  refine a_alloc Tryz.zeroValue55 rfl rfl fun g1 => ?_
  refine aw_nil ?_
  refine ac_seq ?_
  refine ac_seq ?_
  refine ac_reg ?_
  refine w_ (p_move rfl rfl) ?_
  refine w_ (p_move rfl rfl) ?_
  refine w_ (p_len (m := p.length) Tryz.runUnderlying52 rfl (rlen_pl _) rfl) ?_
  refine w_ (p_cmp rfl rfl rfl rfl) ?_
  refine aw_nil ?_
  refine ac_cond rfl (fun hb_if1 => ?_) (fun hb_if1 => ?_)
  · try simp only [decide_eq_true_eq, decide_eq_false_iff_not, Bool.not_eq_true', Bool.not_eq_false'] at hb_if1
    have hb : k < p.length := by omega
    refine ac_seq ?_
    refine ac_reg ?_
    refine w_ (p_move rfl rfl) ?_
    refine w_ (p_move rfl rfl) ?_
    obtain ⟨x_ix1, hx_ix1⟩ : ∃ x, (p)[k]? = some x := ⟨_, List.getElem?_eq_getElem (by omega)⟩
    refine w_ (p_index (k) Tryz.runUnderlying52 Tryz.sizeOf55 rfl rfl (rfl) (map_get hx_ix1) rfl rfl) ?_
    refine w_ (p_loadSh Tryz.isAgg55 Tryz.sizeOf55 rfl rfl rfl rfl) ?_
    refine a_storeOw 0 Tryz.sizeOf55 rfl rfl rfl rfl rfl rfl rfl ?_
    refine aw_nil ?_
    refine ac_ret ?_
    exact retB_1 Tryz.results257 (rv_cell 0 Tryz.isAgg55 Tryz.sizeOf55 rfl rfl rfl rfl rfl) (by rw [List.getD_eq_getElem?_getD, hx_ix1]; rfl)
  · try simp only [decide_eq_true_eq, decide_eq_false_iff_not, Bool.not_eq_true', Bool.not_eq_false'] at hb_if1
    have hb : p.length ≤ k := by omega
    refine ac_skip ?_
    refine ac_seq ?_
    refine ac_reg ?_
    refine w_ (p_build (bd_55) rfl rfl rfl rfl) ?_
    refine a_storeOw 0 Tryz.sizeOf55 rfl rfl rfl rfl rfl rfl rfl ?_
    refine aw_nil ?_
    refine ac_ret ?_
    exact retB_1 Tryz.results257 (rv_cell 0 Tryz.isAgg55 Tryz.sizeOf55 rfl rfl rfl rfl rfl) (by rw [List.getD_eq_getElem?_getD, List.getElem?_eq_none hb, Option.getD_none]; exact congrArg AV.agg ofI_zero.symm)

theorem d_poly_cut {p : List Int} (hl : p.length < 140737488355328 := by omega) : Does Tryz.prog 192 [.one (pl p)] (.one (pl (trim p))) := by
  refine does_ (n := 21) Tryz.func192 rfl Tryz.ntmps192 rfl ?_
  refine ac_seq ?_
  refine ac_reg ?_
  refine w_ (p_assign rfl rfl) ?_
  refine aw_nil ?_
  refine ac_seq ?_
  refine ac_reg ?_
  refine w_ (p_move rfl rfl) ?_
  refine w_ (p_len (m := p.length) Tryz.runUnderlying52 rfl (rlen_pl _) rfl) ?_
  refine w_ (p_assign rfl rfl) ?_
  refine aw_nil ?_
  refine ac_seq ?_
  refine ac_block ?_
  refine ac_pick [0, 3] rfl ?_
  refine ac_loop (fun m L B => ∃ n, n ≤ p.length ∧ (∀ j x, n ≤ j → p[j]? = some x → x = 0) ∧ m = n ∧ L = [(0, .one (pl p)), (3, .one (.int .i64 ((n : Int))))] ∧ B = []) (m := _) ⟨p.length, Nat.le_refl _, fun j x hj hx => absurd (List.getElem?_eq_some_iff.1 hx).1 (by omega), rfl, rfl, rfl⟩ ?_
  rintro m L B ⟨n, hp0, hp1, hm, rfl, rfl⟩
  by_cases hn0 : 0 < n
  · obtain ⟨y, hy⟩ : ∃ y, p[n - 1]? = some y := ⟨_, List.getElem?_eq_getElem (by omega)⟩
    by_cases hy0 : y = 0
    · skip
      refine ac_seq ?_
      refine ac_seq ?_
      refine ac_reg ?_
      refine w_ (p_move rfl rfl) ?_
      refine w_ (p_cmp rfl rfl rfl rfl) ?_
      refine w_ (p_move rfl rfl) ?_
      refine w_ ((p_grun rfl rfl (decide_eq_true (by omega)) (p_move rfl rfl))) ?_
      refine w_ ((p_grun rfl rfl (decide_eq_true (by omega)) (p_move rfl rfl))) ?_
      refine w_ ((p_grun rfl rfl (decide_eq_true (by omega)) (p_sub (r := ((n - 1 : Nat) : Int)) rfl rfl (i64_is (by omega) (by omega)) rfl))) ?_
      refine w_ ((p_grun rfl rfl (decide_eq_true (by omega)) (p_index (n - 1) Tryz.runUnderlying52 Tryz.sizeOf55 rfl rfl (rfl) (map_get hy) rfl rfl))) ?_
      refine w_ ((p_grun rfl rfl (decide_eq_true (by omega)) (p_loadSh Tryz.isAgg55 Tryz.sizeOf55 rfl rfl rfl rfl))) ?_
      refine w_ ((p_grun rfl rfl (decide_eq_true (by omega)) (p_call Tryz.func252 rfl rfl rfl rfl ((d_ZeroN _) ) rfl))) ?_
      refine w_ (p_pickT rfl (decide_eq_true (by omega)) rfl rfl) ?_
      refine aw_nil ?_
      refine ac_t rfl (decide_eq_true hy0) ?_
      refine ac_skip ?_
      refine ac_block ?_
      refine ac_reg ?_
      refine w_ (p_move rfl rfl) ?_
      refine w_ (p_sub (r := ((n - 1 : Nat) : Int)) rfl rfl (i64_is (by omega) (by omega)) rfl) ?_
      refine w_ (p_assign rfl rfl) ?_
      refine aw_pick [0, 3] rfl ?_
      refine aw_nil ?_
      refine ⟨_, ?_, n - 1, by omega, fun j x hj hx => by
          rcases Nat.lt_or_ge j n with h1 | h1
          · have : j = n - 1 := by omega
            subst this; rw [hy] at hx; injection hx with hx; rw [← hx]; exact hy0
          · exact hp1 j x h1 hx, rfl, rfl, rfl⟩
      omega
    · skip
      refine ac_seq ?_
      refine ac_seq ?_
      refine ac_reg ?_
      refine w_ (p_move rfl rfl) ?_
      refine w_ (p_cmp rfl rfl rfl rfl) ?_
      refine w_ (p_move rfl rfl) ?_
      refine w_ ((p_grun rfl rfl (decide_eq_true (by omega)) (p_move rfl rfl))) ?_
      refine w_ ((p_grun rfl rfl (decide_eq_true (by omega)) (p_move rfl rfl))) ?_
      refine w_ ((p_grun rfl rfl (decide_eq_true (by omega)) (p_sub (r := ((n - 1 : Nat) : Int)) rfl rfl (i64_is (by omega) (by omega)) rfl))) ?_
      refine w_ ((p_grun rfl rfl (decide_eq_true (by omega)) (p_index (n - 1) Tryz.runUnderlying52 Tryz.sizeOf55 rfl rfl (rfl) (map_get hy) rfl rfl))) ?_
      refine w_ ((p_grun rfl rfl (decide_eq_true (by omega)) (p_loadSh Tryz.isAgg55 Tryz.sizeOf55 rfl rfl rfl rfl))) ?_
      refine w_ ((p_grun rfl rfl (decide_eq_true (by omega)) (p_call Tryz.func252 rfl rfl rfl rfl ((d_ZeroN _) ) rfl))) ?_
      refine w_ (p_pickT rfl (decide_eq_true (by omega)) rfl rfl) ?_
      refine aw_nil ?_
      refine ac_f rfl (decide_eq_false hy0) ?_
      refine ac_exit ?_
      repeat refine seqQ_exit ?_
      refine blkQ_here ?_
      refine ac_seq ?_
      refine ac_reg ?_
      refine w_ (p_move rfl rfl) ?_
      refine w_ (p_move rfl rfl) ?_
      have hcut := trim_cut (l := p) (m := n) hp0 hp1 (fun _ => ⟨y, hy, hy0⟩)
      refine w_ (p_sliceHi n Tryz.runUnderlying52 Tryz.sizeOf55 rfl rfl rfl (by simp; omega) (map_w p (sz := 2) (fun _ => rfl)) (l' := (trim p).map ofI) (by rw [hcut, List.map_take]) rfl) ?_
      refine w_ (p_assign rfl rfl) ?_
      refine aw_nil ?_
      refine ac_ret ?_
      exact retB_1 Tryz.results192 (rv_tmp rfl rfl) (rfl)
  · skip
    refine ac_seq ?_
    refine ac_seq ?_
    refine ac_reg ?_
    refine w_ (p_move rfl rfl) ?_
    refine w_ (p_cmp rfl rfl rfl rfl) ?_
    refine w_ (p_move rfl rfl) ?_
    refine w_ (p_gskip rfl rfl (decide_eq_false (by omega)) rfl) ?_
    refine w_ (p_gskip rfl rfl (decide_eq_false (by omega)) rfl) ?_
    refine w_ (p_gskip rfl rfl (decide_eq_false (by omega)) rfl) ?_
    refine w_ (p_gskip rfl rfl (decide_eq_false (by omega)) rfl) ?_
    refine w_ (p_gskip rfl rfl (decide_eq_false (by omega)) rfl) ?_
    refine w_ (p_gskip rfl rfl (decide_eq_false (by omega)) rfl) ?_
    refine w_ (p_pickF rfl (decide_eq_false (by omega)) rfl rfl) ?_
    refine aw_nil ?_
    refine ac_f rfl (rfl) ?_
    refine ac_exit ?_
    repeat refine seqQ_exit ?_
    refine blkQ_here ?_
    refine ac_seq ?_
    refine ac_reg ?_
    refine w_ (p_move rfl rfl) ?_
    refine w_ (p_move rfl rfl) ?_
    have hcut := trim_cut (l := p) (m := n) hp0 hp1 (fun h => absurd h hn0)
    refine w_ (p_sliceHi n Tryz.runUnderlying52 Tryz.sizeOf55 rfl rfl rfl (by simp; omega) (map_w p (sz := 2) (fun _ => rfl)) (l' := (trim p).map ofI) (by rw [hcut, List.map_take]) rfl) ?_
    refine w_ (p_assign rfl rfl) ?_
    refine aw_nil ?_
    refine ac_ret ?_
    exact retB_1 Tryz.results192 (rv_tmp rfl rfl) (rfl)

theorem d_poly_Add1 {p q : List Int} {k : Nat} (hp : Bd 4294967295 p) (hq : Bd 4294967295 q) : Does Tryz.prog 294 [.one (.int .i64 ((k : Int))), .one (.sh [pl p]), .one (.sh [pl q])] (.agg [sg (p.getD k 0 + q.getD k 0), mg (p.getD k 0 + q.getD k 0)]) := by
  refine does_ (n := 12) Tryz.func294 rfl Tryz.ntmps294 rfl ?_
  refine ac_seq ?_
  refine ac_reg ?_
  refine a_alloc Tryz.zeroValue55 rfl rfl fun g1 => ?_
  refine aw_nil ?_
  refine ac_seq ?_
  refine ac_draw mixed_ 5 [5, 6, 7, 8, 9] [[], [], [0, 1], [], []] [.one (pl p), .one (.int .i64 ((k : Int))), .agg [sg (List.getD p k 0), mg (List.getD p k 0)], .one (pl q), .one (.int .i64 ((k : Int)))] rfl rfl rfl ⟨p_loadSh Tryz.isAgg52 Tryz.sizeOf52 rfl rfl rfl rfl, p_move rfl rfl, p_call Tryz.func257 rfl rfl rfl rfl (d_poly_at ) rfl, p_loadSh Tryz.isAgg52 Tryz.sizeOf52 rfl rfl rfl rfl, p_move rfl rfl, trivial⟩ rfl ?_
  refine w_ (p_call Tryz.func257 rfl rfl rfl rfl (d_poly_at ) rfl) ?_
  refine w_ (p_call Tryz.func295 rfl rfl rfl rfl (d_whole_Add (isInt_n _) (isInt_n _) (bd_getD hp k) (bd_getD hq k)) rfl) ?_
  refine a_storeOw 0 Tryz.sizeOf55 rfl rfl rfl rfl rfl rfl rfl ?_
  refine aw_nil ?_
  refine ac_ret ?_
  exact retB_1 Tryz.results294 (rv_cell 0 Tryz.isAgg55 Tryz.sizeOf55 rfl rfl rfl rfl rfl) (rfl)

theorem d_poly_Sub1 {p q : List Int} {k : Nat} (hp : Bd 4294967295 p) (hq : Bd 4294967295 q) : Does Tryz.prog 255 [.one (.int .i64 ((k : Int))), .one (.sh [pl p]), .one (.sh [pl q])] (.agg [sg (p.getD k 0 - q.getD k 0), mg (p.getD k 0 - q.getD k 0)]) := by
  refine does_ (n := 12) Tryz.func255 rfl Tryz.ntmps255 rfl ?_
  refine ac_seq ?_
  refine ac_reg ?_
  refine a_alloc Tryz.zeroValue55 rfl rfl fun g1 => ?_
  refine aw_nil ?_
  refine ac_seq ?_
  refine ac_draw mixed_ 5 [5, 6, 7, 8, 9] [[], [], [0, 1], [], []] [.one (pl p), .one (.int .i64 ((k : Int))), .agg [sg (List.getD p k 0), mg (List.getD p k 0)], .one (pl q), .one (.int .i64 ((k : Int)))] rfl rfl rfl ⟨p_loadSh Tryz.isAgg52 Tryz.sizeOf52 rfl rfl rfl rfl, p_move rfl rfl, p_call Tryz.func257 rfl rfl rfl rfl (d_poly_at ) rfl, p_loadSh Tryz.isAgg52 Tryz.sizeOf52 rfl rfl rfl rfl, p_move rfl rfl, trivial⟩ rfl ?_
  refine w_ (p_call Tryz.func257 rfl rfl rfl rfl (d_poly_at ) rfl) ?_
  refine w_ (p_call Tryz.func256 rfl rfl rfl rfl (d_whole_Sub (isInt_n _) (isInt_n _) (bd_getD hp k) (bd_getD hq k)) rfl) ?_
  refine a_storeOw 0 Tryz.sizeOf55 rfl rfl rfl rfl rfl rfl rfl ?_
  refine aw_nil ?_
  refine ac_ret ?_
  exact retB_1 Tryz.results255 (rv_cell 0 Tryz.isAgg55 Tryz.sizeOf55 rfl rfl rfl rfl rfl) (rfl)

theorem d_poly_Scale1 {p : List Int} {c : Int} {k : Nat} (hk : k < p.length) (hp : Bd 4294967295 p) (hc : isz c ≤ 4294967295) : Does Tryz.prog 258 [.one (.int .i64 ((k : Int))), .one (.sh [pl p]), .one (.sh [sg c, mg c])] (.agg [sg (p.getD k 0 * c), mg (p.getD k 0 * c)]) := by
  refine does_ (n := 11) Tryz.func258 rfl Tryz.ntmps258 rfl ?_
  refine ac_seq ?_
  refine ac_reg ?_
  refine a_alloc Tryz.zeroValue55 rfl rfl fun g1 => ?_
  refine aw_nil ?_
  refine ac_seq ?_
  obtain ⟨x_ix1, hx_ix1⟩ : ∃ x, (p)[k]? = some x := ⟨_, List.getElem?_eq_getElem (by omega)⟩
  refine ac_draw mixed_ 5 [5, 6, 7, 8, 9] [[], [], [0, 1], [2], []] [.one (pl p), .one (.int .i64 ((k : Int))), .one (.sh [sg x_ix1, mg x_ix1]), .agg [sg x_ix1, mg x_ix1], .agg [sg c, mg c]] rfl rfl rfl ⟨p_loadSh Tryz.isAgg52 Tryz.sizeOf52 rfl rfl rfl rfl, p_move rfl rfl, p_index (k) Tryz.runUnderlying52 Tryz.sizeOf55 rfl rfl (rfl) (map_get hx_ix1) rfl rfl, p_loadSh Tryz.isAgg55 Tryz.sizeOf55 rfl rfl rfl rfl, p_loadSh Tryz.isAgg55 Tryz.sizeOf55 rfl rfl rfl rfl, trivial⟩ rfl ?_
  refine w_ (p_call Tryz.func169 rfl rfl rfl rfl (d_whole_Mul (isInt_n _) (isInt_n _) (bd_get hp hx_ix1) (hc)) rfl) ?_
  refine a_storeOw 0 Tryz.sizeOf55 rfl rfl rfl rfl rfl rfl rfl ?_
  refine aw_nil ?_
  refine ac_ret ?_
  exact retB_1 Tryz.results258 (rv_cell 0 Tryz.isAgg55 Tryz.sizeOf55 rfl rfl rfl rfl rfl) (by rw [List.getD_eq_getElem?_getD, hx_ix1]; rfl)

theorem d_poly_Derive1 {p : List Int} {k : Nat} (hk : k + 1 < p.length) (hl : p.length < 274877906944) (hp : Bd 4294967295 p) : Does Tryz.prog 296 [.one (.int .i64 ((k : Int))), .one (.sh [pl p])] (.agg [sg (p.getD (k + 1) 0 * ((k + 1 : Nat) : Int)), mg (p.getD (k + 1) 0 * ((k + 1 : Nat) : Int))]) := by
  refine does_ (n := 13) Tryz.func296 rfl Tryz.ntmps296 rfl ?_
  refine ac_seq ?_
  refine ac_reg ?_
  refine a_alloc Tryz.zeroValue55 rfl rfl fun g1 => ?_
  refine aw_nil ?_
  refine ac_seq ?_
  obtain ⟨x_ix1, hx_ix1⟩ : ∃ x, (p)[k + 1]? = some x := ⟨_, List.getElem?_eq_getElem (by omega)⟩
  refine ac_draw mixed_ 8 [4, 5, 6, 7, 8, 9, 10, 11] [[], [], [1], [0, 2], [3], [], [5], [6]] [.one (pl p), .one (.int .i64 ((k : Int))), .one (.int .i64 (((k + 1 : Nat) : Int))), .one (.sh [sg x_ix1, mg x_ix1]), .agg [sg x_ix1, mg x_ix1], .one (.int .i64 ((k : Int))), .one (.int .i64 (((k + 1 : Nat) : Int))), .agg [sg (((k + 1 : Nat) : Int)), mg (((k + 1 : Nat) : Int))]] rfl rfl rfl ⟨p_loadSh Tryz.isAgg52 Tryz.sizeOf52 rfl rfl rfl rfl, p_move rfl rfl, p_add (r := ((k + 1 : Nat) : Int)) rfl rfl (i64_is (by omega) (by omega)) rfl, p_index (k + 1) Tryz.runUnderlying52 Tryz.sizeOf55 rfl rfl (rfl) (map_get hx_ix1) rfl rfl, p_loadSh Tryz.isAgg55 Tryz.sizeOf55 rfl rfl rfl rfl, p_move rfl rfl, p_add (r := ((k + 1 : Nat) : Int)) rfl rfl (i64_is (by omega) (by omega)) rfl, p_call Tryz.func191 rfl rfl rfl rfl (d_whole_Of (by omega)) rfl, trivial⟩ rfl ?_
  refine w_ (p_call Tryz.func169 rfl rfl rfl rfl (d_whole_Mul (isInt_n _) (isInt_n _) (bd_get hp hx_ix1) (isz_nat38 (by omega))) rfl) ?_
  refine a_storeOw 0 Tryz.sizeOf55 rfl rfl rfl rfl rfl rfl rfl ?_
  refine aw_nil ?_
  refine ac_ret ?_
  exact retB_1 Tryz.results296 (rv_cell 0 Tryz.isAgg55 Tryz.sizeOf55 rfl rfl rfl rfl rfl) (by rw [List.getD_eq_getElem?_getD, hx_ix1]; rfl)

theorem d_poly_each {n fid : Nat} {pre post : List LV} {fn : Func} {g : Nat → Int} (hfn : Tryz.prog.funcs[fid]? = some fn) (hnm : (fn.name == "runtime.NumGoroutine") = false) (hbd : fn.body.isNone = false) (hn : n < 274877906944)
    (hf : ∀ k : Nat, k < n → Does Tryz.prog fid (pre.map .one ++ [.one (.int .i64 (k : Int))] ++ post.map .one) (.agg (ofI (g k)))) : Does Tryz.prog 254 [.one (.int .i64 ((n : Int))), .one (.fn fid pre post)] (.one (pl (each n g))) := by
  refine does_ (n := 23) Tryz.func254 rfl Tryz.ntmps254 rfl ?_
  refine ac_seq ?_
  refine ac_reg ?_
  refine w_ (p_assign rfl rfl) ?_
  refine aw_nil ?_
  refine ac_seq ?_
  refine ac_reg ?_
  refine w_ (p_move rfl rfl) ?_
  refine a_make (n) Tryz.runUnderlying52 Tryz.typeInfo55 rfl Tryz.sizeOf55 Tryz.zeroValue55 rfl rfl rfl rfl rfl rfl (rfl) (rfl) (hn) rfl fun r1 => ?_
  refine aw_zeros (ls' := (tab g n 0).map ofI) 0 rfl rfl (by rw [← tab_zero]; exact zeros_I _) ?_
  refine w_ (p_assign rfl rfl) ?_
  refine aw_nil ?_
  refine ac_seq ?_
  refine ac_seq ?_
  refine ac_reg ?_
  refine w_ (p_move rfl rfl) ?_
  refine w_ (p_len (m := n) Tryz.runUnderlying52 rfl (rfl) rfl) ?_
  refine w_ (p_move rfl rfl) ?_
  refine aw_nil ?_
  refine ac_block ?_
  refine ac_pick [1, 5, 10, 11] rfl ?_
  refine ac_loop (fun m L B => ∃ i, i ≤ n ∧ m = n - i ∧ L = [(1, .one (.fn fid pre post)), (5, .one (.orow r1 2 0 n)), (10, .one (.int .i64 (((n : Nat) : Int)))), (11, .one (.int .i64 ((i : Int))))] ∧ B = [.row r1 55 2 ((tab g n i).map ofI)]) (m := _) ⟨0, Nat.zero_le _, rfl, rfl, rfl⟩ ?_
  rintro m L B ⟨i, hp0, hm, rfl, rfl⟩
  by_cases hlt : i < n
  · skip
    refine ac_seq ?_
    refine ac_reg ?_
    refine w_ (p_cmp rfl rfl rfl rfl) ?_
    refine aw_nil ?_
    refine ac_seq ?_
    refine ac_t rfl (decide_eq_true (by omega)) ?_
    refine ac_skip ?_
    refine ac_seq ?_
    refine ac_block ?_
    refine ac_seq ?_
    refine ac_reg ?_
    refine w_ (p_move rfl rfl) ?_
    refine w_ (p_assign rfl rfl) ?_
    refine aw_nil ?_
    refine ac_reg ?_
    refine w_ (p_move rfl rfl) ?_
    refine w_ (p_move rfl rfl) ?_
    refine w_ (p_move rfl rfl) ?_
    refine w_ (p_move rfl rfl) ?_
    refine w_ (p_callFn rfl hfn hnm hbd rfl rfl (hf i hlt) rfl) ?_
    refine w_ (p_indexO (i) Tryz.runUnderlying52 Tryz.sizeOf55 rfl rfl (rfl) (by omega) rfl) ?_
    refine a_storeO (ls2 := (tab g n (i + 1)).map ofI) 0 Tryz.sizeOf55 rfl rfl rfl rfl rfl rfl (by rw [Nat.zero_add]; exact map_get (tab_get g hlt)) rfl (by rw [Nat.zero_add]; exact (set_map ofI _ i (g i)).trans (by rw [tab_set g hlt])) ?_
    refine aw_nil ?_
    refine ac_reg ?_
    refine w_ (p_add (r := ((i + 1 : Nat) : Int)) rfl rfl (i64_is (by omega) (by omega)) rfl) ?_
    refine w_ (p_move rfl rfl) ?_
    refine aw_pick [1, 5, 10, 11] rfl ?_
    refine aw_nil ?_
    refine ⟨_, ?_, i + 1, by omega, rfl, rfl, rfl⟩
    omega
  · skip
    refine ac_seq ?_
    refine ac_reg ?_
    refine w_ (p_cmp rfl rfl rfl rfl) ?_
    refine aw_nil ?_
    refine ac_seq ?_
    refine ac_f rfl (decide_eq_false (by omega)) ?_
    refine ac_exit ?_
    repeat refine seqQ_exit ?_
    refine blkQ_here ?_
    refine ac_seq ?_
    refine ac_reg ?_
    refine w_ (p_move rfl rfl) ?_
    refine aw_pub 0 [21] rfl (allAre1 rfl) (by rw [List.length_map, tab_len g (by omega)]) (by rw [List.length_map, tab_len g (by omega)]; omega) rfl ?_
    refine w_ (p_call Tryz.func192 rfl rfl rfl rfl (d_poly_cut (by rw [tab_len g (by omega)]; omega)) rfl) ?_
    refine w_ (p_assign rfl rfl) ?_
    refine aw_nil ?_
    refine ac_ret ?_
    exact retB_1 Tryz.results254 (rv_tmp rfl rfl) (by rw [show i = n from by omega, tab_all]; rfl)

theorem d_poly_Add {p q : List Int} (hlp : p.length < 274877906944) (hlq : q.length < 274877906944) (hp : Bd 4294967295 p) (hq : Bd 4294967295 q) : Does Tryz.prog 236 [.one (pl p), .one (pl q)] (.one (pl (padd p q))) := by
  refine does_ (n := 12) Tryz.func236 rfl Tryz.ntmps236 rfl ?_
  refine ac_seq ?_
  refine ac_reg ?_
  refine w_ (p_boxS rfl rfl rfl rfl) ?_
  refine w_ (p_boxS rfl rfl rfl rfl) ?_
  refine w_ (p_assign rfl rfl) ?_
  refine aw_nil ?_
  refine ac_seq ?_
  refine ac_reg ?_
  refine w_ (p_loadSh Tryz.isAgg52 Tryz.sizeOf52 rfl rfl rfl rfl) ?_
  refine w_ (p_len (m := p.length) Tryz.runUnderlying52 rfl (rlen_pl _) rfl) ?_
  refine w_ (p_loadSh Tryz.isAgg52 Tryz.sizeOf52 rfl rfl rfl rfl) ?_
  refine w_ (p_len (m := q.length) Tryz.runUnderlying52 rfl (rlen_pl _) rfl) ?_
  refine w_ (p_max (r := ((max p.length q.length : Nat) : Int)) rfl rfl (by split <;> omega) rfl) ?_
  refine w_ (p_makeFunc rfl rfl rfl rfl rfl rfl rfl) ?_
  refine w_ (p_call Tryz.func254 rfl rfl rfl rfl (d_poly_each (g := fun k => p.getD k 0 + q.getD k 0) Tryz.func294 rfl rfl (by omega) (fun k hk => d_poly_Add1 hp hq)) rfl) ?_
  refine w_ (p_assign rfl rfl) ?_
  refine aw_nil ?_
  refine ac_ret ?_
  exact retB_1 Tryz.results236 (rv_tmp rfl rfl) (rfl)

theorem d_poly_Sub {p q : List Int} (hlp : p.length < 274877906944) (hlq : q.length < 274877906944) (hp : Bd 4294967295 p) (hq : Bd 4294967295 q) : Does Tryz.prog 171 [.one (pl p), .one (pl q)] (.one (pl (psub p q))) := by
  refine does_ (n := 12) Tryz.func171 rfl Tryz.ntmps171 rfl ?_
  refine ac_seq ?_
  refine ac_reg ?_
  refine w_ (p_boxS rfl rfl rfl rfl) ?_
  refine w_ (p_boxS rfl rfl rfl rfl) ?_
  refine w_ (p_assign rfl rfl) ?_
  refine aw_nil ?_
  refine ac_seq ?_
  refine ac_reg ?_
  refine w_ (p_loadSh Tryz.isAgg52 Tryz.sizeOf52 rfl rfl rfl rfl) ?_
  refine w_ (p_len (m := p.length) Tryz.runUnderlying52 rfl (rlen_pl _) rfl) ?_
  refine w_ (p_loadSh Tryz.isAgg52 Tryz.sizeOf52 rfl rfl rfl rfl) ?_
  refine w_ (p_len (m := q.length) Tryz.runUnderlying52 rfl (rlen_pl _) rfl) ?_
  refine w_ (p_max (r := ((max p.length q.length : Nat) : Int)) rfl rfl (by split <;> omega) rfl) ?_
  refine w_ (p_makeFunc rfl rfl rfl rfl rfl rfl rfl) ?_
  refine w_ (p_call Tryz.func254 rfl rfl rfl rfl (d_poly_each (g := fun k => p.getD k 0 - q.getD k 0) Tryz.func255 rfl rfl (by omega) (fun k hk => d_poly_Sub1 hp hq)) rfl) ?_
  refine w_ (p_assign rfl rfl) ?_
  refine aw_nil ?_
  refine ac_ret ?_
  exact retB_1 Tryz.results171 (rv_tmp rfl rfl) (rfl)

theorem d_poly_Scale {p : List Int} {c : Int} (hlp : p.length < 274877906944) (hp : Bd 4294967295 p) (hc : isz c ≤ 4294967295) : Does Tryz.prog 172 [.one (pl p), .agg [sg c, mg c]] (.one (pl (pscale p c))) := by
  refine does_ (n := 9) Tryz.func172 rfl Tryz.ntmps172 rfl ?_
  refine ac_seq ?_
  refine ac_reg ?_
  refine w_ (p_boxS rfl rfl rfl rfl) ?_
  refine w_ (p_boxS rfl rfl rfl rfl) ?_
  refine w_ (p_assign rfl rfl) ?_
  refine aw_nil ?_
  refine ac_seq ?_
  refine ac_reg ?_
  refine w_ (p_loadSh Tryz.isAgg52 Tryz.sizeOf52 rfl rfl rfl rfl) ?_
  refine w_ (p_len (m := p.length) Tryz.runUnderlying52 rfl (rlen_pl _) rfl) ?_
  refine w_ (p_makeFunc rfl rfl rfl rfl rfl rfl rfl) ?_
  refine w_ (p_call Tryz.func254 rfl rfl rfl rfl (d_poly_each (g := fun k => p.getD k 0 * c) Tryz.func258 rfl rfl (by omega) (fun k hk => d_poly_Scale1 hk hp hc)) rfl) ?_
  refine w_ (p_assign rfl rfl) ?_
  refine aw_nil ?_
  refine ac_ret ?_
  exact retB_1 Tryz.results172 (rv_tmp rfl rfl) (rfl)

theorem d_poly_Derive {p : List Int} (hlp : p.length < 274877906944) (hp : Bd 4294967295 p) : Does Tryz.prog 238 [.one (pl p)] (.one (pl (pder p))) := by
  refine does_ (n := 9) Tryz.func238 rfl Tryz.ntmps238 rfl ?_
  refine ac_seq ?_
  refine ac_reg ?_
  refine w_ (p_boxS rfl rfl rfl rfl) ?_
  refine w_ (p_assign rfl rfl) ?_
  refine aw_nil ?_
  refine ac_seq ?_
  refine ac_reg ?_
  refine w_ (p_loadSh Tryz.isAgg52 Tryz.sizeOf52 rfl rfl rfl rfl) ?_
  refine w_ (p_len (m := p.length) Tryz.runUnderlying52 rfl (rlen_pl _) rfl) ?_
  refine w_ (p_sub (r := ((((p.length : Nat) : Int)) - 1)) rfl rfl (i64_is rfl (by omega)) rfl) ?_
  refine w_ (p_max (r := ((p.length - 1 : Nat) : Int)) rfl rfl (by split <;> omega) rfl) ?_
  refine w_ (p_makeFunc rfl rfl rfl rfl rfl rfl rfl) ?_
  refine w_ (p_call Tryz.func254 rfl rfl rfl rfl (d_poly_each (g := fun k => p.getD (k + 1) 0 * ((k + 1 : Nat) : Int)) Tryz.func296 rfl rfl (by omega) (fun k hk => d_poly_Derive1 (by omega) hlp hp)) rfl) ?_
  refine w_ (p_assign rfl rfl) ?_
  refine aw_nil ?_
  refine ac_ret ?_
  exact retB_1 Tryz.results238 (rv_tmp rfl rfl) (rfl)

theorem d_poly_Norm {ls : List (List LV)} {p : List Int} (hi : IsInts ls p) (hl : p.length < 274877906944) (hs : Bd 4294967295 p) : Does Tryz.prog 189 [.one (.row ls)] (.one (pl (trim p))) := by
  refine does_ (n := 24) Tryz.func189 rfl Tryz.ntmps189 rfl ?_
  refine ac_seq ?_
  refine ac_reg ?_
  refine w_ (p_assign rfl rfl) ?_
  refine aw_nil ?_
  refine ac_seq ?_
  refine ac_reg ?_
  refine w_ (p_move rfl rfl) ?_
  refine w_ (p_len (m := p.length) Tryz.runUnderlying52 rfl (by simp only [rlen]; rw [hi.len]) rfl) ?_
  refine a_make (p.length) Tryz.runUnderlying52 Tryz.typeInfo55 rfl Tryz.sizeOf55 Tryz.zeroValue55 rfl rfl rfl rfl rfl rfl (rfl) (rfl) (hl) rfl fun r1 => ?_
  refine aw_zeros (ls' := (tab (fun k => p.getD k 0) p.length 0).map ofI) 0 rfl rfl (by rw [← tab_zero]; exact zeros_I _) ?_
  refine w_ (p_assign rfl rfl) ?_
  refine aw_nil ?_
  refine ac_seq ?_
  refine ac_seq ?_
  refine ac_reg ?_
  refine w_ (p_move rfl rfl) ?_
  refine w_ (p_len (m := p.length) Tryz.runUnderlying52 rfl (by simp only [rlen]; rw [hi.len]) rfl) ?_
  refine w_ (p_move rfl rfl) ?_
  refine aw_nil ?_
  refine ac_block ?_
  refine ac_pick [9, 10, 3, 11] rfl ?_
  refine ac_loop (fun m L B => ∃ i, i ≤ p.length ∧ m = p.length - i ∧ L = [(9, .one (.row ls)), (10, .one (.int .i64 (((p.length : Nat) : Int)))), (3, .one (.orow r1 2 0 p.length)), (11, .one (.int .i64 ((i : Int))))] ∧ B = [.row r1 55 2 ((tab (fun k => p.getD k 0) p.length i).map ofI)]) (m := _) ⟨0, Nat.zero_le _, rfl, rfl, rfl⟩ ?_
  rintro m L B ⟨i, hp0, hm, rfl, rfl⟩
  by_cases hlt : i < p.length
  · obtain ⟨xa, xb, hx, bb, ll, rfl, rfl, hll, hzz⟩ := hi.get (getD_some hlt)
    refine ac_seq ?_
    refine ac_reg ?_
    refine w_ (p_cmp rfl rfl rfl rfl) ?_
    refine aw_nil ?_
    refine ac_seq ?_
    refine ac_t rfl (decide_eq_true (by omega)) ?_
    refine ac_skip ?_
    refine ac_seq ?_
    refine ac_block ?_
    refine ac_seq ?_
    refine ac_reg ?_
    refine w_ (p_move rfl rfl) ?_
    refine w_ (p_index (i) Tryz.runUnderlying52 Tryz.sizeOf55 rfl rfl (rfl) (hx) rfl rfl) ?_
    refine w_ (p_loadSh Tryz.isAgg55 Tryz.sizeOf55 rfl rfl rfl rfl) ?_
    refine a_alloc Tryz.zeroValue55 rfl rfl fun g2 => ?_
    refine w_ (p_assign rfl rfl) ?_
    refine a_storeOw 0 Tryz.sizeOf55 rfl rfl rfl rfl rfl rfl rfl ?_
    refine aw_nil ?_
    refine ac_reg ?_
    refine w_ (p_move rfl rfl) ?_
    refine w_ (p_move rfl rfl) ?_
    refine w_ (p_loadOw 0 Tryz.isAgg55 Tryz.sizeOf55 rfl rfl rfl rfl rfl) ?_
    refine w_ (p_call Tryz.func251 rfl rfl rfl rfl (d_whole_Norm ⟨_, _, rfl, rfl, hll, hzz⟩ (bd_getD hs i)) rfl) ?_
    refine w_ (p_indexO (i) Tryz.runUnderlying52 Tryz.sizeOf55 rfl rfl (rfl) (by omega) rfl) ?_
    refine a_storeO (ls2 := (tab (fun k => p.getD k 0) p.length (i + 1)).map ofI) 1 Tryz.sizeOf55 rfl rfl rfl rfl rfl rfl (by rw [Nat.zero_add]; exact map_get (tab_get _ hlt)) rfl (by rw [Nat.zero_add]; exact (set_map ofI _ i (p.getD i 0)).trans (by rw [← tab_set _ hlt])) ?_
    refine aw_nil ?_
    refine ac_reg ?_
    refine w_ (p_add (r := ((i + 1 : Nat) : Int)) rfl rfl (i64_is (by omega) (by omega)) rfl) ?_
    refine w_ (p_move rfl rfl) ?_
    refine aw_pick [9, 10, 3, 11] rfl ?_
    refine aw_drop 1 rfl ?_
    refine aw_nil ?_
    refine ⟨_, ?_, i + 1, by omega, rfl, rfl, rfl⟩
    omega
  · skip
    refine ac_seq ?_
    refine ac_reg ?_
    refine w_ (p_cmp rfl rfl rfl rfl) ?_
    refine aw_nil ?_
    refine ac_seq ?_
    refine ac_f rfl (decide_eq_false (by omega)) ?_
    refine ac_exit ?_
    repeat refine seqQ_exit ?_
    refine blkQ_here ?_
    refine ac_seq ?_
    refine ac_reg ?_
    refine w_ (p_move rfl rfl) ?_
    refine aw_pub 0 [22] rfl (allAre1 rfl) (by rw [List.length_map, tab_len _ (by omega)]) (by rw [List.length_map, tab_len _ (by omega)]; omega) rfl ?_
    refine w_ (p_call Tryz.func192 rfl rfl rfl rfl (d_poly_cut (by rw [tab_len _ (by omega)]; omega)) rfl) ?_
    refine w_ (p_assign rfl rfl) ?_
    refine aw_nil ?_
    refine ac_ret ?_
    exact retB_1 Tryz.results189 (rv_tmp rfl rfl) (by rw [show i = p.length from by omega, tab_all, map_getD])

theorem d_poly_NormN {p : List Int} (hl : p.length < 274877906944) (hs : Bd 4294967295 p) : Does Tryz.prog 189 [.one (pl p)] (.one (pl (trim p))) := d_poly_Norm (isInts_n p) hl hs
theorem d_poly_NormT {p : List Int} (ht : Trim p) (hl : p.length < 274877906944) (hs : Bd 4294967295 p) : Does Tryz.prog 189 [.one (pl p)] (.one (pl p)) := by
  have h := d_poly_NormN hl hs
  rwa [show trim p = p from ht] at h

theorem d_poly_Of {p : List Int} (hl : p.length < 274877906944) (hr : ∀ z ∈ p, -9223372036854775808 ≤ z ∧ z ≤ 9223372036854775807) : Does Tryz.prog 113 [.one (ids p)] (.one (pl (trim p))) := by
  refine does_ (n := 24) Tryz.func113 rfl Tryz.ntmps113 rfl ?_
  refine ac_seq ?_
  refine ac_reg ?_
  refine w_ (p_assign rfl rfl) ?_
  refine aw_nil ?_
  refine ac_seq ?_
  refine ac_reg ?_
  refine w_ (p_move rfl rfl) ?_
  refine w_ (p_len (m := p.length) Tryz.runUnderlying23 rfl (rlen_ids _) rfl) ?_
  refine a_make (p.length) Tryz.runUnderlying52 Tryz.typeInfo55 rfl Tryz.sizeOf55 Tryz.zeroValue55 rfl rfl rfl rfl rfl rfl (rfl) (rfl) (hl) rfl fun r1 => ?_
  refine aw_zeros (ls' := (tab (fun k => p.getD k 0) p.length 0).map ofI) 0 rfl rfl (by rw [← tab_zero]; exact zeros_I _) ?_
  refine w_ (p_assign rfl rfl) ?_
  refine aw_nil ?_
  refine ac_seq ?_
  refine ac_seq ?_
  refine ac_reg ?_
  refine w_ (p_move rfl rfl) ?_
  refine w_ (p_len (m := p.length) Tryz.runUnderlying23 rfl (rlen_ids _) rfl) ?_
  refine w_ (p_move rfl rfl) ?_
  refine aw_nil ?_
  refine ac_block ?_
  refine ac_pick [9, 10, 3, 11] rfl ?_
  refine ac_loop (fun m L B => ∃ i, i ≤ p.length ∧ m = p.length - i ∧ L = [(9, .one (ids p)), (10, .one (.int .i64 (((p.length : Nat) : Int)))), (3, .one (.orow r1 2 0 p.length)), (11, .one (.int .i64 ((i : Int))))] ∧ B = [.row r1 55 2 ((tab (fun k => p.getD k 0) p.length i).map ofI)]) (m := _) ⟨0, Nat.zero_le _, rfl, rfl, rfl⟩ ?_
  rintro m L B ⟨i, hp0, hm, rfl, rfl⟩
  by_cases hlt : i < p.length
  · skip
    refine ac_seq ?_
    refine ac_reg ?_
    refine w_ (p_cmp rfl rfl rfl rfl) ?_
    refine aw_nil ?_
    refine ac_seq ?_
    refine ac_t rfl (decide_eq_true (by omega)) ?_
    refine ac_skip ?_
    refine ac_seq ?_
    refine ac_block ?_
    refine ac_seq ?_
    refine ac_reg ?_
    refine w_ (p_move rfl rfl) ?_
    refine w_ (p_index (i) Tryz.runUnderlying23 Tryz.sizeOf3 rfl rfl (rfl) (map_get (getD_some hlt)) rfl rfl) ?_
    refine w_ (p_loadSh Tryz.isAgg3 Tryz.sizeOf3 rfl rfl rfl rfl) ?_
    refine w_ (p_assign rfl rfl) ?_
    refine w_ (p_assign rfl rfl) ?_
    refine aw_nil ?_
    refine ac_reg ?_
    refine w_ (p_move rfl rfl) ?_
    refine w_ (p_move rfl rfl) ?_
    refine w_ (p_move rfl rfl) ?_
    refine w_ (p_call Tryz.func191 rfl rfl rfl rfl (d_whole_Of (hr _ (List.mem_of_getElem? (getD_some hlt)))) rfl) ?_
    refine w_ (p_indexO (i) Tryz.runUnderlying52 Tryz.sizeOf55 rfl rfl (rfl) (by omega) rfl) ?_
    refine a_storeO (ls2 := (tab (fun k => p.getD k 0) p.length (i + 1)).map ofI) 0 Tryz.sizeOf55 rfl rfl rfl rfl rfl rfl (by rw [Nat.zero_add]; exact map_get (tab_get _ hlt)) rfl (by rw [Nat.zero_add]; exact (set_map ofI _ i (p.getD i 0)).trans (by rw [← tab_set _ hlt])) ?_
    refine aw_nil ?_
    refine ac_reg ?_
    refine w_ (p_add (r := ((i + 1 : Nat) : Int)) rfl rfl (i64_is (by omega) (by omega)) rfl) ?_
    refine w_ (p_move rfl rfl) ?_
    refine aw_pick [9, 10, 3, 11] rfl ?_
    refine aw_nil ?_
    refine ⟨_, ?_, i + 1, by omega, rfl, rfl, rfl⟩
    omega
  · skip
    refine ac_seq ?_
    refine ac_reg ?_
    refine w_ (p_cmp rfl rfl rfl rfl) ?_
    refine aw_nil ?_
    refine ac_seq ?_
    refine ac_f rfl (decide_eq_false (by omega)) ?_
    refine ac_exit ?_
    repeat refine seqQ_exit ?_
    refine blkQ_here ?_
    refine ac_seq ?_
    refine ac_reg ?_
    refine w_ (p_move rfl rfl) ?_
    refine aw_pub 0 [22] rfl (allAre1 rfl) (by rw [List.length_map, tab_len _ (by omega)]) (by rw [List.length_map, tab_len _ (by omega)]; omega) rfl ?_
    refine w_ (p_call Tryz.func192 rfl rfl rfl rfl (d_poly_cut (by rw [tab_len _ (by omega)]; omega)) rfl) ?_
    refine w_ (p_assign rfl rfl) ?_
    refine aw_nil ?_
    refine ac_ret ?_
    exact retB_1 Tryz.results113 (rv_tmp rfl rfl) (by rw [show i = p.length from by omega, tab_all, map_getD])

theorem d_poly_Mul {p q : List Int} {s t : Nat} (tp : Trim p) (tq : Trim q) (hlp : p.length < 137438953472) (hlq : q.length < 137438953472) (hp : Bd s p) (hq : Bd t q) (hst : s + t ≤ 4294967000) : Does Tryz.prog 237 [.one (pl p), .one (pl q)] (.one (pl (pmul p q))) := by
  refine does_ (n := 62) Tryz.func237 rfl Tryz.ntmps237 rfl ?_
  rcases Nat.eq_zero_or_pos p.length with h0 | h0
  · skip
    refine ac_seq ?_
    refine ac_reg ?_
    refine w_ (p_assign rfl rfl) ?_
    refine aw_nil ?_
    refine ac_seq ?_
    refine ac_reg ?_
    refine w_ (p_move rfl rfl) ?_
    refine w_ (p_call Tryz.func189 rfl rfl rfl rfl (d_poly_NormT tp (by omega) (bd_mono hp (by omega))) rfl) ?_
    refine w_ (p_move rfl rfl) ?_
    refine w_ (p_call Tryz.func189 rfl rfl rfl rfl (d_poly_NormT tq (by omega) (bd_mono hq (by omega))) rfl) ?_
    refine w_ (p_assign rfl rfl) ?_
    refine w_ (p_assign rfl rfl) ?_
    refine aw_nil ?_
    refine ac_seq ?_
    refine ac_seq ?_
    refine ac_reg ?_
    refine w_ (p_move rfl rfl) ?_
    refine w_ (p_len (m := p.length) Tryz.runUnderlying52 rfl (rlen_pl _) rfl) ?_
    refine w_ (p_cmp rfl rfl rfl rfl) ?_
    refine w_ (p_move rfl rfl) ?_
    refine w_ (p_gskip rfl rfl (decide_eq_true (by omega)) rfl) ?_
    refine w_ (p_gskip rfl rfl (decide_eq_true (by omega)) rfl) ?_
    refine w_ (p_gskip rfl rfl (decide_eq_true (by omega)) rfl) ?_
    refine w_ (p_pickT rfl (decide_eq_true (by omega)) rfl rfl) ?_
    refine aw_nil ?_
    refine ac_t rfl (rfl) ?_
    refine ac_seq ?_
    refine ac_reg ?_
    refine w_ (p_assign rfl rfl) ?_
    refine aw_nil ?_
    refine ac_ret ?_
    exact retB_1 Tryz.results237 (rv_tmp rfl rfl) (by unfold pmul; rw [if_pos (.inl h0)]; rfl)
  · rcases Nat.eq_zero_or_pos q.length with h1 | h1
    · skip
      refine ac_seq ?_
      refine ac_reg ?_
      refine w_ (p_assign rfl rfl) ?_
      refine aw_nil ?_
      refine ac_seq ?_
      refine ac_reg ?_
      refine w_ (p_move rfl rfl) ?_
      refine w_ (p_call Tryz.func189 rfl rfl rfl rfl (d_poly_NormT tp (by omega) (bd_mono hp (by omega))) rfl) ?_
      refine w_ (p_move rfl rfl) ?_
      refine w_ (p_call Tryz.func189 rfl rfl rfl rfl (d_poly_NormT tq (by omega) (bd_mono hq (by omega))) rfl) ?_
      refine w_ (p_assign rfl rfl) ?_
      refine w_ (p_assign rfl rfl) ?_
      refine aw_nil ?_
      refine ac_seq ?_
      refine ac_seq ?_
      refine ac_reg ?_
      refine w_ (p_move rfl rfl) ?_
      refine w_ (p_len (m := p.length) Tryz.runUnderlying52 rfl (rlen_pl _) rfl) ?_
      refine w_ (p_cmp rfl rfl rfl rfl) ?_
      refine w_ (p_move rfl rfl) ?_
      refine w_ ((p_grun rfl rfl (decide_eq_false (by omega)) (p_move rfl rfl))) ?_
      refine w_ ((p_grun rfl rfl (decide_eq_false (by omega)) (p_len (m := q.length) Tryz.runUnderlying52 rfl (rlen_pl _) rfl))) ?_
      refine w_ ((p_grun rfl rfl (decide_eq_false (by omega)) (p_cmp rfl rfl rfl rfl))) ?_
      refine w_ (p_pickF rfl (decide_eq_false (by omega)) rfl rfl) ?_
      refine aw_nil ?_
      refine ac_t rfl (decide_eq_true (by omega)) ?_
      refine ac_seq ?_
      refine ac_reg ?_
      refine w_ (p_assign rfl rfl) ?_
      refine aw_nil ?_
      refine ac_ret ?_
      exact retB_1 Tryz.results237 (rv_tmp rfl rfl) (by unfold pmul; rw [if_pos (.inr h1)]; rfl)
    · skip
      refine ac_seq ?_
      refine ac_reg ?_
      refine w_ (p_assign rfl rfl) ?_
      refine aw_nil ?_
      refine ac_seq ?_
      refine ac_reg ?_
      refine w_ (p_move rfl rfl) ?_
      refine w_ (p_call Tryz.func189 rfl rfl rfl rfl (d_poly_NormT tp (by omega) (bd_mono hp (by omega))) rfl) ?_
      refine w_ (p_move rfl rfl) ?_
      refine w_ (p_call Tryz.func189 rfl rfl rfl rfl (d_poly_NormT tq (by omega) (bd_mono hq (by omega))) rfl) ?_
      refine w_ (p_assign rfl rfl) ?_
      refine w_ (p_assign rfl rfl) ?_
      refine aw_nil ?_
      refine ac_seq ?_
      refine ac_seq ?_
      refine ac_reg ?_
      refine w_ (p_move rfl rfl) ?_
      refine w_ (p_len (m := p.length) Tryz.runUnderlying52 rfl (rlen_pl _) rfl) ?_
      refine w_ (p_cmp rfl rfl rfl rfl) ?_
      refine w_ (p_move rfl rfl) ?_
      refine w_ ((p_grun rfl rfl (decide_eq_false (by omega)) (p_move rfl rfl))) ?_
      refine w_ ((p_grun rfl rfl (decide_eq_false (by omega)) (p_len (m := q.length) Tryz.runUnderlying52 rfl (rlen_pl _) rfl))) ?_
      refine w_ ((p_grun rfl rfl (decide_eq_false (by omega)) (p_cmp rfl rfl rfl rfl))) ?_
      refine w_ (p_pickF rfl (decide_eq_false (by omega)) rfl rfl) ?_
      refine aw_nil ?_
      refine ac_f rfl (decide_eq_false (by omega)) ?_
      refine ac_skip ?_
      refine ac_seq ?_
      refine ac_reg ?_
      refine w_ (p_move rfl rfl) ?_
      refine w_ (p_len (m := p.length) Tryz.runUnderlying52 rfl (rlen_pl _) rfl) ?_
      refine w_ (p_move rfl rfl) ?_
      refine w_ (p_len (m := q.length) Tryz.runUnderlying52 rfl (rlen_pl _) rfl) ?_
      refine w_ (p_add (r := ((p.length + q.length : Nat) : Int)) rfl rfl (i64_is (by omega) (by omega)) rfl) ?_
      refine w_ (p_sub (r := ((p.length + q.length - 1 : Nat) : Int)) rfl rfl (i64_is (by omega) (by omega)) rfl) ?_
      refine a_make (p.length + q.length - 1) Tryz.runUnderlying52 Tryz.typeInfo55 rfl Tryz.sizeOf55 Tryz.zeroValue55 rfl rfl rfl rfl rfl rfl (rfl) (rfl) (by omega) rfl fun r1 => ?_
      refine aw_zeros (ls' := (muli p q (List.replicate (p.length + q.length - 1) 0) 0).map ofI) 0 rfl rfl (zeros_I _) ?_
      refine w_ (p_assign rfl rfl) ?_
      refine aw_nil ?_
      refine ac_seq ?_
      refine ac_seq ?_
      refine ac_reg ?_
      refine w_ (p_move rfl rfl) ?_
      refine w_ (p_len (m := p.length) Tryz.runUnderlying52 rfl (rlen_pl _) rfl) ?_
      refine w_ (p_move rfl rfl) ?_
      refine aw_nil ?_
      refine ac_block ?_
      refine ac_pick [1, 5, 29, 30, 31] rfl ?_
      refine ac_loop (fun m L B => ∃ i, i ≤ p.length ∧ m = p.length - i ∧ L = [(1, .one (pl q)), (5, .one (.orow r1 2 0 (p.length + q.length - 1))), (29, .one (pl p)), (30, .one (.int .i64 (((p.length : Nat) : Int)))), (31, .one (.int .i64 ((i : Int))))] ∧ B = [.row r1 55 2 ((muli p q (List.replicate (p.length + q.length - 1) 0) i).map ofI)]) (m := _) ⟨0, Nat.zero_le _, rfl, rfl, rfl⟩ ?_
      rintro m L B ⟨i, hp0, hm, rfl, rfl⟩
      by_cases hlt : i < p.length
      · skip
        refine ac_seq ?_
        refine ac_reg ?_
        refine w_ (p_cmp rfl rfl rfl rfl) ?_
        refine aw_nil ?_
        refine ac_seq ?_
        refine ac_t rfl (decide_eq_true (by omega)) ?_
        refine ac_skip ?_
        refine ac_seq ?_
        refine ac_block ?_
        refine ac_seq ?_
        refine ac_reg ?_
        refine w_ (p_move rfl rfl) ?_
        refine w_ (p_index (i) Tryz.runUnderlying52 Tryz.sizeOf55 rfl rfl (rfl) (map_get (getD_some hlt)) rfl rfl) ?_
        refine w_ (p_loadSh Tryz.isAgg55 Tryz.sizeOf55 rfl rfl rfl rfl) ?_
        refine a_alloc Tryz.zeroValue55 rfl rfl fun g2 => ?_
        refine w_ (p_assign rfl rfl) ?_
        refine a_storeOw 0 Tryz.sizeOf55 rfl rfl rfl rfl rfl rfl rfl ?_
        refine aw_nil ?_
        refine ac_seq ?_
        refine ac_reg ?_
        refine w_ (p_move rfl rfl) ?_
        refine w_ (p_len (m := q.length) Tryz.runUnderlying52 rfl (rlen_pl _) rfl) ?_
        refine w_ (p_move rfl rfl) ?_
        refine aw_nil ?_
        refine ac_block ?_
        refine ac_pick [1, 5, 6, 7, 29, 30, 31, 36, 37, 38] rfl ?_
        refine ac_front 0 rfl ?_
        refine ac_front 1 rfl ?_
        refine ac_loop (fun m L B => ∃ k, k ≤ q.length ∧ m = q.length - k ∧ L = [(1, .one (pl q)), (5, .one (.orow r1 2 0 (p.length + q.length - 1))), (6, .one (.int .i64 ((i : Int)))), (7, .one (.ow g2 0)), (29, .one (pl p)), (30, .one (.int .i64 (((p.length : Nat) : Int)))), (31, .one (.int .i64 ((i : Int)))), (36, .one (pl q)), (37, .one (.int .i64 (((q.length : Nat) : Int)))), (38, .one (.int .i64 ((k : Int))))] ∧ B = [.row r1 55 2 ((mulk (p.getD i 0) q i (muli p q (List.replicate (p.length + q.length - 1) 0) i) k).map ofI), .blk g2 55 [sg (p.getD i 0), mg (p.getD i 0)]]) (m := _) ⟨0, Nat.zero_le _, rfl, rfl, rfl⟩ ?_
        rintro m L B ⟨k, hq0, hm, rfl, rfl⟩
        by_cases hlt2 : k < q.length
        · have hm1 : isz ((mulk (p.getD i 0) q i (muli p q (List.replicate (p.length + q.length - 1) 0) i) k).getD (i + k) 0) ≤ 4294967295 := Nat.le_trans (isz_of_natAbs (t := 39) (mulk_bd (by rw [muli_len, List.length_replicate]; omega) (muli_bd (fun j hj => by rw [List.length_replicate]; omega) (getD_replicate _) (fun i j => natAbs_mul_bd (bd_getD hp i) (bd_getD hq j))) (fun j => natAbs_mul_bd (bd_getD hp i) (bd_getD hq j)) (i + k)) (Nat.lt_of_lt_of_eq (show i + 1 < 549755813888 by omega) (by decide))) (by omega)
          have hm2 : isz (p.getD i 0 * q.getD k 0) ≤ 4294967295 := Nat.le_trans (isz_mul _ _) (by have := bd_getD hp i; have := bd_getD hq k; omega)
          refine ac_seq ?_
          refine ac_reg ?_
          refine w_ (p_cmp rfl rfl rfl rfl) ?_
          refine aw_nil ?_
          refine ac_seq ?_
          refine ac_t rfl (decide_eq_true (by omega)) ?_
          refine ac_skip ?_
          refine ac_seq ?_
          refine ac_block ?_
          refine ac_seq ?_
          refine ac_reg ?_
          refine w_ (p_move rfl rfl) ?_
          refine w_ (p_index (k) Tryz.runUnderlying52 Tryz.sizeOf55 rfl rfl (rfl) (map_get (getD_some hlt2)) rfl rfl) ?_
          refine w_ (p_loadSh Tryz.isAgg55 Tryz.sizeOf55 rfl rfl rfl rfl) ?_
          refine a_alloc Tryz.zeroValue55 rfl rfl fun g3 => ?_
          refine w_ (p_assign rfl rfl) ?_
          refine a_storeOw 0 Tryz.sizeOf55 rfl rfl rfl rfl rfl rfl rfl ?_
          refine aw_nil ?_
          refine ac_draw mixed_ 14 [43, 44, 45, 46, 47, 48, 49, 50, 51, 52, 53, 54, 55, 56] [[], [], [], [1, 2], [], [], [], [5, 6], [4, 7], [8], [], [], [10, 11], [9, 12]] [.one (.orow r1 2 0 (p.length + q.length - 1)), .one (.int .i64 ((i : Int))), .one (.int .i64 ((k : Int))), .one (.int .i64 (((i + k : Nat) : Int))), .one (.orow r1 2 0 (p.length + q.length - 1)), .one (.int .i64 ((i : Int))), .one (.int .i64 ((k : Int))), .one (.int .i64 (((i + k : Nat) : Int))), .one (.oel r1 2 ((0 + (i + k))) 0), .agg [sg ((mulk (p.getD i 0) q i (muli p q (List.replicate (p.length + q.length - 1) 0) i) k).getD (i + k) 0), mg ((mulk (p.getD i 0) q i (muli p q (List.replicate (p.length + q.length - 1) 0) i) k).getD (i + k) 0)], .agg [sg (p.getD i 0), mg (p.getD i 0)], .agg [sg (q.getD k 0), mg (q.getD k 0)], .agg [sg ((p.getD i 0) * (q.getD k 0)), mg ((p.getD i 0) * (q.getD k 0))], .agg [sg (((mulk (p.getD i 0) q i (muli p q (List.replicate (p.length + q.length - 1) 0) i) k).getD (i + k) 0) + ((p.getD i 0) * (q.getD k 0))), mg (((mulk (p.getD i 0) q i (muli p q (List.replicate (p.length + q.length - 1) 0) i) k).getD (i + k) 0) + ((p.getD i 0) * (q.getD k 0)))]] rfl rfl rfl ⟨p_move rfl rfl, p_move rfl rfl, p_move rfl rfl, p_add (r := ((i + k : Nat) : Int)) rfl rfl (i64_is (by omega) (by omega)) rfl, p_move rfl rfl, p_move rfl rfl, p_move rfl rfl, p_add (r := ((i + k : Nat) : Int)) rfl rfl (i64_is (by omega) (by omega)) rfl, p_indexO (i + k) Tryz.runUnderlying52 Tryz.sizeOf55 rfl rfl (rfl) (by omega) rfl, p_loadO 1 Tryz.isAgg55 Tryz.sizeOf55 rfl rfl (by rw [Nat.zero_add]; exact map_get (getD_some (by rw [mulk_len, muli_len, List.length_replicate]; omega))) rfl rfl rfl, p_loadOw 2 Tryz.isAgg55 Tryz.sizeOf55 rfl rfl rfl rfl rfl, p_loadOw 0 Tryz.isAgg55 Tryz.sizeOf55 rfl rfl rfl rfl rfl, p_call Tryz.func169 rfl rfl rfl rfl (d_whole_Mul (isInt_n _) (isInt_n _) (Nat.le_trans (bd_getD hp i) (by omega)) (Nat.le_trans (bd_getD hq k) (by omega))) rfl, p_call Tryz.func295 rfl rfl rfl rfl (d_whole_Add (isInt_n _) (isInt_n _) (hm1) (hm2)) rfl, trivial⟩ rfl ?_
          refine w_ (p_indexO (i + k) Tryz.runUnderlying52 Tryz.sizeOf55 rfl rfl (rfl) (by omega) rfl) ?_
          refine a_storeO (ls2 := (mulk (p.getD i 0) q i (muli p q (List.replicate (p.length + q.length - 1) 0) i) (k + 1)).map ofI) 1 Tryz.sizeOf55 rfl rfl rfl rfl rfl rfl (by rw [Nat.zero_add]; exact map_get (getD_some (by rw [mulk_len, muli_len, List.length_replicate]; omega))) rfl (by rw [Nat.zero_add]; exact set_map ofI _ _ _) ?_
          refine aw_nil ?_
          refine ac_reg ?_
          refine w_ (p_add (r := ((k + 1 : Nat) : Int)) rfl rfl (i64_is (by omega) (by omega)) rfl) ?_
          refine w_ (p_move rfl rfl) ?_
          refine aw_pick [1, 5, 6, 7, 29, 30, 31, 36, 37, 38] rfl ?_
          refine aw_drop 1 rfl ?_
          refine aw_nil ?_
          refine ⟨_, ?_, k + 1, by omega, rfl, rfl, rfl⟩
          omega
        · skip
          refine ac_seq ?_
          refine ac_reg ?_
          refine w_ (p_cmp rfl rfl rfl rfl) ?_
          refine aw_nil ?_
          refine ac_seq ?_
          refine ac_f rfl (decide_eq_false (by omega)) ?_
          refine ac_exit ?_
          repeat refine seqQ_exit ?_
          refine blkQ_here ?_
          refine ac_reg ?_
          refine w_ (p_add (r := ((i + 1 : Nat) : Int)) rfl rfl (i64_is (by omega) (by omega)) rfl) ?_
          refine w_ (p_move rfl rfl) ?_
          refine aw_rowEq (ls' := (muli p q (List.replicate (p.length + q.length - 1) 0) (i + 1)).map ofI) 0 rfl (by rw [show k = q.length from by omega]; rfl) ?_
          refine aw_pick [1, 5, 29, 30, 31] rfl ?_
          refine aw_drop 1 rfl ?_
          refine aw_nil ?_
          refine ⟨_, ?_, i + 1, by omega, rfl, rfl, rfl⟩
          omega
      · skip
        refine ac_seq ?_
        refine ac_reg ?_
        refine w_ (p_cmp rfl rfl rfl rfl) ?_
        refine aw_nil ?_
        refine ac_seq ?_
        refine ac_f rfl (decide_eq_false (by omega)) ?_
        refine ac_exit ?_
        repeat refine seqQ_exit ?_
        refine blkQ_here ?_
        refine ac_seq ?_
        refine ac_reg ?_
        refine w_ (p_move rfl rfl) ?_
        refine aw_pub 0 [60] rfl (allAre1 rfl) (by rw [List.length_map, muli_len, List.length_replicate]) (by rw [List.length_map, muli_len, List.length_replicate]; omega) rfl ?_
        refine w_ (p_call Tryz.func192 rfl rfl rfl rfl (d_poly_cut (by rw [muli_len, List.length_replicate]; omega)) rfl) ?_
        refine w_ (p_assign rfl rfl) ?_
        refine aw_nil ?_
        refine ac_ret ?_
        exact retB_1 Tryz.results237 (rv_tmp rfl rfl) (by unfold pmul; rw [if_neg (by omega), show i = p.length from by omega])

theorem d_poly_Same {p q : List Int} (hlp : p.length < 274877906944) (hlq : q.length < 274877906944) (hp : Bd 4294967295 p) (hq : Bd 4294967295 q) : Does Tryz.prog 290 [.one (pl p), .one (pl q)] (.one (.bool (decide (trim p = trim q)))) := by
  refine does_ (n := 31) Tryz.func290 rfl Tryz.ntmps290 rfl ?_
  have hl1 := trim_len p
  have hl2 := trim_len q
  · skip
    refine ac_seq ?_
    refine ac_reg ?_
    refine w_ (p_assign rfl rfl) ?_
    refine aw_nil ?_
    refine ac_seq ?_
    refine ac_reg ?_
    refine w_ (p_move rfl rfl) ?_
    refine w_ (p_call Tryz.func189 rfl rfl rfl rfl (d_poly_NormN (hlp) (hp)) rfl) ?_
    refine w_ (p_move rfl rfl) ?_
    refine w_ (p_call Tryz.func189 rfl rfl rfl rfl (d_poly_NormN (hlq) (hq)) rfl) ?_
    refine w_ (p_assign rfl rfl) ?_
    refine w_ (p_assign rfl rfl) ?_
    refine aw_nil ?_
    refine ac_seq ?_
    refine ac_seq ?_
    refine ac_reg ?_
    refine w_ (p_move rfl rfl) ?_
    refine w_ (p_len (m := (trim p).length) Tryz.runUnderlying52 rfl (rlen_pl _) rfl) ?_
    refine w_ (p_move rfl rfl) ?_
    refine w_ (p_len (m := (trim q).length) Tryz.runUnderlying52 rfl (rlen_pl _) rfl) ?_
    refine w_ (p_cmp rfl rfl rfl rfl) ?_
    refine aw_nil ?_
    refine ac_cond rfl (fun hb_if1 => ?_) (fun hb_if1 => ?_)
    · try simp only [decide_eq_true_eq, decide_eq_false_iff_not, Bool.not_eq_true', Bool.not_eq_false'] at hb_if1
      refine ac_seq ?_
      refine ac_reg ?_
      refine w_ (p_assign rfl rfl) ?_
      refine aw_nil ?_
      refine ac_ret ?_
      exact retB_1 Tryz.results290 (rv_tmp rfl rfl) (by rw [decide_eq_false fun e => hb_if1 (by rw [e])])
    · try simp only [decide_eq_true_eq, decide_eq_false_iff_not, Bool.not_eq_true', Bool.not_eq_false'] at hb_if1
      refine ac_skip ?_
      refine ac_seq ?_
      refine ac_seq ?_
      refine ac_reg ?_
      refine w_ (p_move rfl rfl) ?_
      refine w_ (p_len (m := (trim p).length) Tryz.runUnderlying52 rfl (rlen_pl _) rfl) ?_
      refine w_ (p_move rfl rfl) ?_
      refine aw_nil ?_
      refine ac_block ?_
      refine ac_pick [1, 16, 17, 18] rfl ?_
      refine ac_loop (fun m L B => ∃ i, i ≤ (trim p).length ∧ (∀ j, j < i → (trim p).getD j 0 = (trim q).getD j 0) ∧ m = (trim p).length - i ∧ L = [(1, .one (pl (trim q))), (16, .one (pl (trim p))), (17, .one (.int .i64 ((((trim p).length : Nat) : Int)))), (18, .one (.int .i64 ((i : Int))))] ∧ B = []) (m := _) ⟨0, Nat.zero_le _, fun j hj => absurd hj (Nat.not_lt_zero _), rfl, rfl, rfl⟩ ?_
      rintro m L B ⟨i, hp0, hp1, hm, rfl, rfl⟩
      by_cases hlt : i < (trim p).length
      · skip
        refine ac_seq ?_
        refine ac_reg ?_
        refine w_ (p_cmp rfl rfl rfl rfl) ?_
        refine aw_nil ?_
        refine ac_seq ?_
        refine ac_t rfl (decide_eq_true (by omega)) ?_
        refine ac_skip ?_
        refine ac_seq ?_
        refine ac_block ?_
        refine ac_seq ?_
        refine ac_reg ?_
        refine w_ (p_move rfl rfl) ?_
        refine w_ (p_index (i) Tryz.runUnderlying52 Tryz.sizeOf55 rfl rfl (rfl) (map_get (getD_some hlt)) rfl rfl) ?_
        refine w_ (p_loadSh Tryz.isAgg55 Tryz.sizeOf55 rfl rfl rfl rfl) ?_
        refine a_alloc Tryz.zeroValue55 rfl rfl fun g1 => ?_
        refine w_ (p_assign rfl rfl) ?_
        refine a_storeOw 0 Tryz.sizeOf55 rfl rfl rfl rfl rfl rfl rfl ?_
        refine aw_nil ?_
        refine ac_seq ?_
        refine ac_draw mixed_ 5 [23, 24, 25, 26, 27] [[], [], [], [1, 2], [3]] [.agg [sg ((trim p).getD i 0), mg ((trim p).getD i 0)], .one (pl (trim q)), .one (.int .i64 ((i : Int))), .one (.sh [sg ((trim q).getD i 0), mg ((trim q).getD i 0)]), .agg [sg ((trim q).getD i 0), mg ((trim q).getD i 0)]] rfl rfl rfl ⟨p_loadOw 0 Tryz.isAgg55 Tryz.sizeOf55 rfl rfl rfl rfl rfl, p_move rfl rfl, p_move rfl rfl, p_index (i) Tryz.runUnderlying52 Tryz.sizeOf55 rfl rfl (rfl) (map_get (getD_some (by omega))) rfl rfl, p_loadSh Tryz.isAgg55 Tryz.sizeOf55 rfl rfl rfl rfl, trivial⟩ rfl ?_
        refine w_ (p_call Tryz.func291 rfl rfl rfl rfl (d_whole_Cmp (isInt_n _) (isInt_n _) (Nat.le_trans (bd_getD (bd_trim hp) i) (Nat.le_refl _)) (Nat.le_trans (bd_getD (bd_trim hq) i) (Nat.le_refl _))) rfl) ?_
        refine w_ (p_cmp rfl rfl rfl rfl) ?_
        refine aw_nil ?_
        refine ac_cond rfl (fun hb_if3 => ?_) (fun hb_if3 => ?_)
        · try simp only [decide_eq_true_eq, decide_eq_false_iff_not, Bool.not_eq_true', Bool.not_eq_false'] at hb_if3
          have hne : (trim p).getD i 0 ≠ (trim q).getD i 0 := fun e => hb_if3 (cmpZ_eq.2 e)
          refine ac_seq ?_
          refine ac_reg ?_
          refine w_ (p_assign rfl rfl) ?_
          refine aw_nil ?_
          refine ac_ret ?_
          exact retB_1 Tryz.results290 (rv_tmp rfl rfl) (by rw [decide_eq_false fun e => hne (by rw [e])])
        · try simp only [decide_eq_true_eq, decide_eq_false_iff_not, Bool.not_eq_true', Bool.not_eq_false'] at hb_if3
          refine ac_skip ?_
          refine ac_reg ?_
          refine w_ (p_add (r := ((i + 1 : Nat) : Int)) rfl rfl (i64_is (by omega) (by omega)) rfl) ?_
          refine w_ (p_move rfl rfl) ?_
          refine aw_pick [1, 16, 17, 18] rfl ?_
          refine aw_drop 0 rfl ?_
          refine aw_nil ?_
          refine ⟨_, ?_, i + 1, by omega, fun j hj => by
              rcases Nat.lt_or_ge j i with h1 | h1
              · exact hp1 j h1
              · rw [show j = i from by omega]; exact cmpZ_eq.1 (Classical.not_not.1 hb_if3), rfl, rfl, rfl⟩
          omega
      · skip
        refine ac_seq ?_
        refine ac_reg ?_
        refine w_ (p_cmp rfl rfl rfl rfl) ?_
        refine aw_nil ?_
        refine ac_seq ?_
        refine ac_f rfl (decide_eq_false (by omega)) ?_
        refine ac_exit ?_
        repeat refine seqQ_exit ?_
        refine blkQ_here ?_
        refine ac_seq ?_
        refine ac_reg ?_
        refine w_ (p_assign rfl rfl) ?_
        refine aw_nil ?_
        refine ac_ret ?_
        exact retB_1 Tryz.results290 (rv_tmp rfl rfl) (by rw [decide_eq_true (eq_of_getD (by omega) fun j hj => hp1 j (by omega))])

theorem d_poly_value {p : List Int} {n d : Int} {s t : Nat} (hl : p.length < 274877906944) (hp : Bd s p) (hn : isz n ≤ t) (hd : isz d ≤ t) (hst : s + p.length * (t + 1) + 2 * t + 10 ≤ 4294967295) : Does Tryz.prog 298 [.one (pl p), .agg [sg n, mg n], .agg [sg d, mg d]] (.agg [sg (pval p n d), mg (pval p n d)]) := by
  refine does_ (n := 32) Tryz.func298 rfl Tryz.ntmps298 rfl ?_
  refine ac_seq ?_
  refine ac_reg ?_
  refine w_ (p_boxS rfl rfl rfl rfl) ?_
  refine w_ (p_boxS rfl rfl rfl rfl) ?_
  refine a_alloc Tryz.zeroValue55 rfl rfl fun g1 => ?_
  refine aw_nil ?_
  refine ac_seq ?_
  refine ac_reg ?_
  refine a_alloc Tryz.zeroValue55 rfl rfl fun g2 => ?_
  refine aw_nil ?_
  refine ac_seq ?_
  refine ac_reg ?_
  refine w_ (p_call Tryz.func191 rfl rfl rfl rfl (d_whole_Of (by omega)) rfl) ?_
  refine a_alloc Tryz.zeroValue55 rfl rfl fun g3 => ?_
  refine a_storeOw 0 Tryz.sizeOf55 rfl rfl rfl rfl rfl rfl rfl ?_
  refine aw_blk (ys := ofI 0) 1 rfl rfl ofI_zero.symm ?_
  refine aw_nil ?_
  refine ac_seq ?_
  refine ac_seq ?_
  refine ac_reg ?_
  refine w_ (p_move rfl rfl) ?_
  refine w_ (p_len (m := p.length) Tryz.runUnderlying52 rfl (rlen_pl _) rfl) ?_
  refine w_ (p_sub (r := ((p.length : Int) - 1 - ((0 : Nat) : Int))) rfl rfl (i64_is (by omega) (by omega)) rfl) ?_
  refine w_ (p_assign rfl rfl) ?_
  refine aw_nil ?_
  refine ac_block ?_
  refine ac_pick [0, 4, 5, 6, 7, 8, 9] rfl ?_
  refine ac_front 2 rfl ?_
  refine ac_front 1 rfl ?_
  refine ac_front 2 rfl ?_
  refine ac_loop (fun m L B => ∃ j, j ≤ p.length ∧ m = p.length - j ∧ L = [(0, .one (pl p)), (4, .one (.sh [sg n, mg n])), (5, .one (.sh [sg d, mg d])), (6, .one (.ow g1 0)), (7, .one (.ow g2 0)), (8, .one (.ow g3 0)), (9, .one (.int .i64 (((p.length : Int) - 1 - (j : Int)))))] ∧ B = [.blk g3 55 [sg ((valk p n d j).2), mg ((valk p n d j).2)], .blk g2 55 [sg ((valk p n d j).1), mg ((valk p n d j).1)], .blk g1 55 [.bool false, .nils]]) (m := _) ⟨0, Nat.zero_le _, rfl, rfl, rfl⟩ ?_
  rintro m L B ⟨j, hp0, hm, rfl, rfl⟩
  by_cases hlt : j < p.length
  · have hv := valk_bd (k := j) hp hn hd
    have hjl : j * (t + 1) ≤ p.length * (t + 1) := Nat.mul_le_mul_right _ (by omega)
    have hjl2 : j * t ≤ j * (t + 1) := Nat.mul_le_mul_left _ (by omega)
    have hc := bd_getD hp (p.length - 1 - j)
    have hm1 : isz ((valk p n d j).1 * n) ≤ 4294967295 := Nat.le_trans (isz_mul _ _) (by omega)
    have hm2 : isz (p.getD (p.length - 1 - j) 0 * (valk p n d j).2) ≤ 4294967295 := Nat.le_trans (isz_mul _ _) (by omega)
    refine ac_seq ?_
    refine ac_seq ?_
    refine ac_reg ?_
    refine w_ (p_move rfl rfl) ?_
    refine w_ (p_cmp rfl rfl rfl rfl) ?_
    refine aw_nil ?_
    refine ac_t rfl (decide_eq_true (by omega)) ?_
    refine ac_skip ?_
    refine ac_seq ?_
    refine ac_block ?_
    refine ac_seq ?_
    refine ac_draw mixed_ 8 [18, 19, 20, 21, 22, 23, 24, 25] [[], [], [0, 1], [], [], [3, 4], [5], []] [.agg [sg ((valk p n d j).1), mg ((valk p n d j).1)], .agg [sg n, mg n], .agg [sg (((valk p n d j).1) * n), mg (((valk p n d j).1) * n)], .one (pl p), .one (.int .i64 (((p.length : Int) - 1 - (j : Int)))), .one (.sh [sg (p.getD (p.length - 1 - j) 0), mg (p.getD (p.length - 1 - j) 0)]), .agg [sg (p.getD (p.length - 1 - j) 0), mg (p.getD (p.length - 1 - j) 0)], .agg [sg ((valk p n d j).2), mg ((valk p n d j).2)]] rfl rfl rfl ⟨p_loadOw 1 Tryz.isAgg55 Tryz.sizeOf55 rfl rfl rfl rfl rfl, p_loadSh Tryz.isAgg55 Tryz.sizeOf55 rfl rfl rfl rfl, p_call Tryz.func169 rfl rfl rfl rfl (d_whole_Mul (isInt_n _) (isInt_n _) (by omega) (by omega)) rfl, p_move rfl rfl, p_move rfl rfl, p_index (p.length - 1 - j) Tryz.runUnderlying52 Tryz.sizeOf55 rfl rfl (by omega) (map_get (getD_some (by omega))) rfl rfl, p_loadSh Tryz.isAgg55 Tryz.sizeOf55 rfl rfl rfl rfl, p_loadOw 0 Tryz.isAgg55 Tryz.sizeOf55 rfl rfl rfl rfl rfl, trivial⟩ rfl ?_
    refine w_ (p_call Tryz.func169 rfl rfl rfl rfl (d_whole_Mul (isInt_n _) (isInt_n _) (by omega) (by omega)) rfl) ?_
    refine w_ (p_call Tryz.func295 rfl rfl rfl rfl (d_whole_Add (isInt_n _) (isInt_n _) (hm1) (hm2)) rfl) ?_
    refine a_storeOw 1 Tryz.sizeOf55 rfl rfl rfl rfl rfl rfl rfl ?_
    refine aw_nil ?_
    refine ac_reg ?_
    refine w_ (p_loadOw 0 Tryz.isAgg55 Tryz.sizeOf55 rfl rfl rfl rfl rfl) ?_
    refine w_ (p_loadSh Tryz.isAgg55 Tryz.sizeOf55 rfl rfl rfl rfl) ?_
    refine w_ (p_call Tryz.func169 rfl rfl rfl rfl (d_whole_Mul (isInt_n _) (isInt_n _) (by omega) (by omega)) rfl) ?_
    refine a_storeOw 0 Tryz.sizeOf55 rfl rfl rfl rfl rfl rfl rfl ?_
    refine aw_nil ?_
    refine ac_reg ?_
    refine w_ (p_move rfl rfl) ?_
    refine w_ (p_sub (r := ((p.length : Int) - 1 - ((j + 1 : Nat) : Int))) rfl rfl (i64_is (by omega) (by omega)) rfl) ?_
    refine w_ (p_assign rfl rfl) ?_
    refine aw_pick [0, 4, 5, 6, 7, 8, 9] rfl ?_
    refine aw_nil ?_
    refine ⟨_, ?_, j + 1, by omega, rfl, rfl, rfl⟩
    omega
  · skip
    refine ac_seq ?_
    refine ac_seq ?_
    refine ac_reg ?_
    refine w_ (p_move rfl rfl) ?_
    refine w_ (p_cmp rfl rfl rfl rfl) ?_
    refine aw_nil ?_
    refine ac_f rfl (decide_eq_false (by omega)) ?_
    refine ac_exit ?_
    repeat refine seqQ_exit ?_
    refine blkQ_here ?_
    refine ac_seq ?_
    refine ac_reg ?_
    refine w_ (p_loadOw 1 Tryz.isAgg55 Tryz.sizeOf55 rfl rfl rfl rfl rfl) ?_
    refine a_storeOw 2 Tryz.sizeOf55 rfl rfl rfl rfl rfl rfl rfl ?_
    refine aw_nil ?_
    refine ac_ret ?_
    exact retB_1 Tryz.results298 (rv_cell 2 Tryz.isAgg55 Tryz.sizeOf55 rfl rfl rfl rfl rfl) (by rw [show j = p.length from by omega]; rfl)

end Orr

namespace Orr
/-- a rational number's four leaves -/
abbrev rl (q : Rat) : List LV := [sg q.num, mg q.num, sg (q.den : Int), mg (q.den : Int)]
theorem rl_eq {a b : Int} {q : Rat} (h1 : a = q.num) (h2 : b = (q.den : Int)) : AV.agg [sg a, mg a, sg b, mg b] = AV.agg (rl q) := by rw [h1, h2]
theorem gcdL_two (n d : Int) : gcdL [n, d] = Int.gcd d n := by
  unfold gcdL
  simp only [List.foldl_cons, List.foldl_nil, Nat.gcd_zero_left]
  exact Nat.gcd_comm _ _
theorem gcdL_pos {n d : Int} (hd : d ≠ 0) : (0 : Int) < ((gcdL [n, d] : Nat) : Int) := by
  rw [gcdL_two]
  have := Int.gcd_pos_of_ne_zero_left n hd
  omega
theorem gcdL_dvd_l (n d : Int) : n % ((gcdL [n, d] : Nat) : Int) = 0 := by
  rw [gcdL_two]; exact Int.emod_eq_zero_of_dvd (Int.gcd_dvd_right ..)
theorem gcdL_dvd_r (n d : Int) : d % ((gcdL [n, d] : Nat) : Int) = 0 := by
  rw [gcdL_two]; exact Int.emod_eq_zero_of_dvd (Int.gcd_dvd_left ..)
theorem neg_mod {n g : Int} (h : n % g = 0) : -n % g = 0 := by
  exact Int.emod_eq_zero_of_dvd (Int.dvd_neg.2 (Int.dvd_of_emod_eq_zero h))
theorem isz_gcd {n d : Int} {s : Nat} (hd : d ≠ 0) (h : isz d ≤ s) : isz ((gcdL [n, d] : Nat) : Int) ≤ s := by
  rw [gcdL_two]
  refine Nat.le_trans (sz_mono ?_) h
  have := Nat.le_of_dvd (by omega : 0 < d.natAbs) (show Int.gcd d n ∣ d.natAbs from Nat.gcd_dvd_left _ _)
  simpa using this
theorem low_pos {n d : Int} (hd : 0 < d) : n / ((gcdL [n, d] : Nat) : Int) = (Rat.divInt n d).num ∧ d / ((gcdL [n, d] : Nat) : Int) = ((Rat.divInt n d).den : Int) := by
  rw [gcdL_two, Rat.num_divInt, Rat.den_divInt, if_neg (by omega), Int.sign_eq_one_of_pos hd, Int.one_mul]
  refine ⟨rfl, ?_⟩
  rw [Int.natCast_ediv, Int.natAbs_of_nonneg (by omega)]
theorem low_neg {n d : Int} (hd : d < 0) : -n / ((gcdL [n, d] : Nat) : Int) = (Rat.divInt n d).num ∧ -d / ((gcdL [n, d] : Nat) : Int) = ((Rat.divInt n d).den : Int) := by
  rw [gcdL_two, Rat.num_divInt, Rat.den_divInt, if_neg (by omega), Int.sign_eq_neg_one_of_neg hd, Int.neg_mul, Int.one_mul]
  refine ⟨rfl, ?_⟩
  rw [Int.natCast_ediv, Int.ofNat_natAbs_of_nonpos (by omega)]
theorem isz_div' (u g : Int) : isz (u / g) ≤ isz u := by
  unfold isz
  exact sz_mono (Int.natAbs_ediv_le_natAbs u g)
theorem isz_divInt_num {n d : Int} {s : Nat} (h : isz n ≤ s) : isz (Rat.divInt n d).num ≤ s := by
  rw [Rat.num_divInt]
  refine Nat.le_trans (isz_div' _ _) ?_
  unfold isz
  rw [Int.natAbs_mul]
  refine Nat.le_trans (sz_mono ?_) h
  have : d.sign.natAbs ≤ 1 := by rcases sign_cases d with ⟨_, e⟩ | ⟨_, e⟩ | ⟨_, e⟩ <;> rw [e] <;> decide
  calc d.sign.natAbs * n.natAbs ≤ 1 * n.natAbs := Nat.mul_le_mul_right _ this
    _ = n.natAbs := Nat.one_mul _
theorem isz_divInt_den {n d : Int} {s : Nat} (h : isz d ≤ s) (h1 : 1 ≤ s) : isz ((Rat.divInt n d).den : Int) ≤ s := by
  rw [Rat.den_divInt]
  split
  · exact h1
  · refine Nat.le_trans (sz_mono ?_) h
    exact Nat.div_le_self _ _
/-- sizes -/
def Qs (s : Nat) (q : Rat) : Prop := isz q.num ≤ s ∧ isz (q.den : Int) ≤ s
theorem Qs.mono {s t : Nat} {q : Rat} (h : Qs s q) (ht : s ≤ t) : Qs t q := ⟨Nat.le_trans h.1 ht, Nat.le_trans h.2 ht⟩
theorem Qs.divInt {s : Nat} {n d : Int} (h : isz n ≤ s) (h' : isz d ≤ s) (h1 : 1 ≤ s) : Qs s (Rat.divInt n d) := ⟨isz_divInt_num h, isz_divInt_den h' h1⟩
theorem den_ne (q : Rat) : (q.den : Int) ≠ 0 := by have := q.den_nz; omega
/-- a number over another one, as it counts -/
def ratOf (n d : Int) : Rat := Rat.divInt n (if d = 0 then 1 else d)
theorem ratOf_q (q : Rat) : ratOf q.num q.den = q := by
  unfold ratOf
  rw [if_neg (den_ne q)]; exact Rat.num_divInt_den q
def cmpQ (a b : Rat) : Int := cmpZ (a.num * (b.den : Int)) (b.num * (a.den : Int))
theorem cmpQ_self (a : Rat) : cmpQ a a = 0 := by unfold cmpQ cmpZ; simp
end Orr

namespace Orr
structure Crv where
  x : List Int
  y : List Int
  d : Int
/-- a curve's leaves -/
abbrev cl (k : Crv) : List LV := [pl k.x, pl k.y, sg k.d, mg k.d]
/-- the denominator as it counts -/
def Crv.d' (k : Crv) : Int := if k.d = 0 then 1 else k.d
/-- what all its numbers are divided by -/
def Crv.g (k : Crv) : Int := if k.d' < 0 then -((gcdL (k.d' :: (trim k.x ++ trim k.y)) : Nat) : Int) else (gcdL (k.d' :: (trim k.x ++ trim k.y)) : Nat)
/-- a curve as it counts -/
def Crv.norm (k : Crv) : Crv := ⟨trim ((trim k.x).map (· / k.g)), trim ((trim k.y).map (· / k.g)), k.d' / k.g⟩
theorem gcdL_dvd {l : List Int} : ∀ z ∈ l, ((gcdL l : Nat) : Int) ∣ z := by
  have key : ∀ (l : List Int) (g : Nat), (l.foldl (fun g z => Nat.gcd g z.natAbs) g ∣ g) ∧ ∀ z ∈ l, l.foldl (fun g z => Nat.gcd g z.natAbs) g ∣ z.natAbs := by
    intro l
    induction l with
    | nil => intro g; exact ⟨Nat.dvd_refl _, by simp⟩
    | cons u l ih =>
      intro g
      obtain ⟨h1, h2⟩ := ih (Nat.gcd g u.natAbs)
      refine ⟨Nat.dvd_trans h1 (Nat.gcd_dvd_left _ _), fun z hz => ?_⟩
      rcases List.mem_cons.1 hz with rfl | hz
      · exact Nat.dvd_trans h1 (Nat.gcd_dvd_right _ _)
      · exact h2 z hz
  intro z hz
  have := (key l 0).2 z hz
  exact Int.ofNat_dvd_left.2 this
theorem Crv.d'_ne (k : Crv) : k.d' ≠ 0 := by unfold Crv.d'; split <;> omega
theorem Crv.gcd_ne (k : Crv) : gcdL (k.d' :: (trim k.x ++ trim k.y)) ≠ 0 := by
  intro e
  have h := gcdL_dvd (l := k.d' :: (trim k.x ++ trim k.y)) k.d' (List.mem_cons_self ..)
  rw [e] at h
  exact k.d'_ne (by simpa using h)
theorem Crv.g_ne (k : Crv) : k.g ≠ 0 := by
  have h0 := k.gcd_ne
  unfold Crv.g
  split <;> omega
theorem Crv.g_dvd (k : Crv) : ∀ z ∈ k.d' :: (trim k.x ++ trim k.y), z % k.g = 0 := by
  intro z hz
  have h := gcdL_dvd z hz
  refine Int.emod_eq_zero_of_dvd ?_
  unfold Crv.g
  split
  · exact Int.neg_dvd.2 h
  · exact h
theorem Crv.isz_g (k : Crv) {s : Nat} (h : isz k.d' ≤ s) : isz k.g ≤ s := by
  have hd := gcdL_dvd (l := k.d' :: (trim k.x ++ trim k.y)) k.d' (List.mem_cons_self ..)
  have hle : gcdL (k.d' :: (trim k.x ++ trim k.y)) ≤ k.d'.natAbs := Nat.le_of_dvd (by have := k.d'_ne; omega) (Int.ofNat_dvd_left.1 hd)
  refine Nat.le_trans (sz_mono ?_) h
  unfold Crv.g
  split <;> simp <;> exact hle
/-- sizes of a curve -/
structure Cs (s n : Nat) (k : Crv) : Prop where
  x : Bd s k.x
  y : Bd s k.y
  d : isz k.d ≤ s
  lx : k.x.length ≤ n
  ly : k.y.length ≤ n
theorem isz_d' {k : Crv} {s : Nat} (h : isz k.d ≤ s) (h1 : 1 ≤ s) : isz k.d' ≤ s := by unfold Crv.d'; split <;> first | exact h1 | exact h
theorem bd_div {s : Nat} {p : List Int} (h : Bd s p) (g : Int) : Bd s (p.map (· / g)) := fun z hz => by
  obtain ⟨u, hu, rfl⟩ := List.mem_map.1 hz
  exact Nat.le_trans (isz_div' u g) (h u hu)
theorem Cs.norm {s n : Nat} {k : Crv} (h : Cs s n k) (h1 : 1 ≤ s) : Cs s n k.norm := by
  refine ⟨bd_trim (bd_div (bd_trim h.x) _), bd_trim (bd_div (bd_trim h.y) _), Nat.le_trans (isz_div' _ _) (isz_d' h.d h1), ?_, ?_⟩
  · refine Nat.le_trans (trim_len _) ?_; rw [List.length_map]; exact Nat.le_trans (trim_len _) h.lx
  · refine Nat.le_trans (trim_len _) ?_; rw [List.length_map]; exact Nat.le_trans (trim_len _) h.ly
theorem Cs.mono {s n t m : Nat} {k : Crv} (h : Cs s n k) (hs : s ≤ t) (hn : n ≤ m) : Cs t m k := ⟨bd_mono h.x hs, bd_mono h.y hs, Nat.le_trans h.d hs, Nat.le_trans h.lx hn, Nat.le_trans h.ly hn⟩
/-- a normal curve -/
def Nml (k : Crv) : Prop := Trim k.x ∧ Trim k.y ∧ 0 < k.d ∧ gcdL (k.d :: (k.x ++ k.y)) = 1
theorem Crv.norm_of {k : Crv} (h : Nml k) : k.norm = k := by
  obtain ⟨h1, h2, h3, h4⟩ := h
  have hd : k.d' = k.d := by unfold Crv.d'; rw [if_neg (by omega)]
  have hx : trim k.x = k.x := h1
  have hy : trim k.y = k.y := h2
  have hg : k.g = 1 := by unfold Crv.g; rw [hd, hx, hy, h4, if_neg (by omega)]; rfl
  unfold Crv.norm
  rw [hg, hd, hx, hy]
  simp [hx, hy]
theorem gcdL_map_div {l : List Int} {g : Int} (hg : g ≠ 0) (hga : g.natAbs = gcdL l) : gcdL (l.map (· / g)) = 1 := by
  have key : ∀ (l : List Int) (a : Nat), (∀ z ∈ l, g ∣ z) → l.foldl (fun a z => Nat.gcd a z.natAbs) (a * g.natAbs) = ((l.map (· / g)).foldl (fun a z => Nat.gcd a z.natAbs) a) * g.natAbs := by
    intro l
    induction l with
    | nil => intro a _; rfl
    | cons z l ih =>
      intro a h
      simp only [List.map_cons, List.foldl_cons]
      have hz : z.natAbs = (z / g).natAbs * g.natAbs := by
        obtain ⟨q, rfl⟩ := h z (List.mem_cons_self ..)
        rw [Int.mul_ediv_cancel_left _ hg, Int.natAbs_mul, Nat.mul_comm]
      rw [hz, Nat.gcd_mul_right]
      exact ih _ fun u hu => h u (List.mem_cons_of_mem _ hu)
  have h := key l 0 fun z hz => Int.natAbs_dvd_natAbs.1 (by rw [hga]; exact Int.natAbs_dvd_natAbs.2 (gcdL_dvd z hz))
  rw [Nat.zero_mul] at h
  have h' : gcdL l = gcdL (l.map (· / g)) * g.natAbs := h
  rw [← hga] at h'
  have hp : 0 < g.natAbs := by omega
  exact Nat.eq_of_mul_eq_mul_right hp (by rw [Nat.one_mul]; exact h'.symm)
theorem trim_id_of_map {l : List Int} {g : Int} (ht : Trim l) (hg : g ≠ 0) (hd : ∀ z ∈ l, g ∣ z) : Trim (l.map (· / g)) := by
  induction l with
  | nil => rfl
  | cons x l ih =>
    have hne : ∀ z ∈ x :: l, z ≠ 0 → z / g ≠ 0 := fun z hz h0 h1 => by
      obtain ⟨q, rfl⟩ := hd z hz
      rw [Int.mul_ediv_cancel_left _ hg] at h1
      rw [h1] at h0; simp at h0
    unfold Trim at ht ih ⊢
    cases hl : trim l with
    | nil =>
      simp only [trim, hl] at ht
      split at ht
      · cases ht
      · rename_i hx
        injection ht with _ h2
        subst h2
        simp [trim, hne x (List.mem_cons_self ..) hx]
    | cons y k =>
      simp only [trim, hl] at ht
      injection ht with _ h2
      have hll : trim l = l := by rw [hl]; exact h2
      have ih := ih hll fun z hz => hd z (List.mem_cons_of_mem _ hz)
      rw [List.map_cons]
      have hne2 : l.map (· / g) ≠ [] := by rw [← hll, hl]; simp
      cases hm : l.map (· / g) with
      | nil => exact absurd hm hne2
      | cons u w =>
        rw [hm] at ih
        have e : trim (x / g :: u :: w) = match trim (u :: w) with | [] => if x / g = 0 then [] else [x / g] | y :: k => x / g :: y :: k := rfl
        rw [e, ih]
theorem Crv.nml (k : Crv) : Nml k.norm := by
  have hg := k.g_ne
  have hdv : ∀ z ∈ k.d' :: (trim k.x ++ trim k.y), k.g ∣ z := fun z hz => Int.dvd_of_emod_eq_zero (k.g_dvd z hz)
  have hx := trim_id_of_map (g := k.g) (trim_trim k.x) hg fun z hz => hdv z (by simp [hz])
  have hy := trim_id_of_map (g := k.g) (trim_trim k.y) hg fun z hz => hdv z (by simp [hz])
  refine ⟨trim_trim _, trim_trim _, ?_, ?_⟩
  · show 0 < k.d' / k.g
    obtain ⟨q, hq⟩ := hdv k.d' (List.mem_cons_self ..)
    have h0 := k.d'_ne
    have hgc := k.gcd_ne
    have e : k.d' / k.g = q := by rw [hq, Int.mul_ediv_cancel_left _ hg]
    rw [e]
    unfold Crv.g at hq hg
    have hq0 : q ≠ 0 := fun e => by rw [e, Int.mul_zero] at hq; exact h0 hq
    split at hq
    · rename_i hneg
      rcases Int.lt_or_gt_of_ne hq0 with h | h
      · have := Int.mul_pos_of_neg_of_neg (a := -((gcdL (k.d' :: (trim k.x ++ trim k.y)) : Nat) : Int)) (b := q) (by omega) h
        omega
      · exact h
    · rename_i hneg
      rcases Int.lt_or_gt_of_ne hq0 with h | h
      · have := Int.mul_neg_of_pos_of_neg (a := ((gcdL (k.d' :: (trim k.x ++ trim k.y)) : Nat) : Int)) (b := q) (by omega) h
        omega
      · exact h
  · show gcdL (k.d' / k.g :: (trim ((trim k.x).map (· / k.g)) ++ trim ((trim k.y).map (· / k.g)))) = 1
    rw [show trim ((trim k.x).map (· / k.g)) = (trim k.x).map (· / k.g) from hx, show trim ((trim k.y).map (· / k.g)) = (trim k.y).map (· / k.g) from hy, ← List.map_append, ← List.map_cons (f := (· / k.g))]
    refine gcdL_map_div hg ?_
    unfold Crv.g
    split <;> omega
/-- a point -/
structure Pt where
  c : Crv
  id : Int
def ofPt (p : Pt) : List LV := [pl p.c.x, pl p.c.y, sg p.c.d, mg p.c.d, .int .i64 p.id]
def pts (l : List Pt) : LV := .row (l.map ofPt)
theorem rlen_pts (l : List Pt) : rlen (pts l) = some l.length := by simp [rlen, pts]
end Orr

namespace Orr
/-- the place of a name, or where it would stand -/
def pos : List Pt → Int → Nat
  | [], _ => 0
  | p :: l, id => if p.id < id then pos l id + 1 else 0
def has (l : List Pt) (id : Int) : Bool := match l[pos l id]? with
  | some p => decide (p.id = id)
  | none => false
theorem pos_le (l : List Pt) (id : Int) : pos l id ≤ l.length := by
  induction l with
  | nil => exact Nat.le_refl _
  | cons p l ih => simp only [pos]; split <;> simp <;> omega
theorem pos_eq : ∀ {l : List Pt} {id : Int} {k : Nat}, (∀ j p, j < k → l[j]? = some p → p.id < id) → (k = l.length ∨ ∃ p, l[k]? = some p ∧ ¬ p.id < id) → pos l id = k
  | [], id, k, _, h => by
    rcases h with h | ⟨p, h, _⟩
    · subst h; rfl
    · simp at h
  | q :: l, id, 0, _, h => by
    rcases h with h | ⟨p, h, h2⟩
    · simp at h
    · simp at h; subst h; simp [pos, h2]
  | q :: l, id, k + 1, h1, h => by
    have hq := h1 0 q (by omega) rfl
    simp only [pos, hq, if_true]
    rw [pos_eq (k := k) (fun j p hj hp => h1 (j + 1) p (by omega) (by simpa using hp))]
    rcases h with h | ⟨p, h, h2⟩
    · left; simpa using h
    · right; exact ⟨p, by simpa using h, h2⟩
/-- with one more -/
def put (l : List Pt) (q : Pt) : List Pt := l.take (pos l q.id) ++ q :: l.drop (pos l q.id)
def putE (l : List Pt) (q : Pt) : Int := if has l q.id = true then 6 else if 6 ≤ l.length then 9 else 0
/-- points that are as they are to be -/
def PtOk (s n : Nat) (p : Pt) : Prop := Nml p.c ∧ Cs s n p.c
theorem put_len (l : List Pt) (q : Pt) : (put l q).length = l.length + 1 := by
  have := pos_le l q.id
  simp [put]; omega
theorem put_mem {l : List Pt} {q p : Pt} (h : p ∈ put l q) : p = q ∨ p ∈ l := by
  unfold put at h
  rcases List.mem_append.1 h with h | h
  · exact .inr (List.mem_of_mem_take h)
  · rcases List.mem_cons.1 h with h | h
    · exact .inl h
    · exact .inr (List.mem_of_mem_drop h)
/-- points put in one behind the other: what there is, and the error -/
def newL : List Pt → List Pt → List Pt × Int
  | acc, [] => (acc, 0)
  | acc, q :: qs => if putE acc q = 0 then newL (put acc q) qs else ([], putE acc q)
def crvEq (a b : Crv) : Bool := decide (a.x = b.x ∧ a.y = b.y ∧ a.d = b.d)
/-- of those that are one way the first one -/
def waysF (out : List Pt) (p : Pt) : List Pt := if out.any (fun q => crvEq p.c q.c) = true then out else out ++ [p]
def ways (l : List Pt) : List Pt := l.foldl waysF []
theorem waysF_mem {out : List Pt} {p q : Pt} (h : q ∈ waysF out p) : q ∈ out ∨ q = p := by
  unfold waysF at h
  split at h
  · exact .inl h
  · rcases List.mem_append.1 h with h | h
    · exact .inl h
    · exact .inr (by simpa using h)
theorem waysF_len (out : List Pt) (p : Pt) : (waysF out p).length ≤ out.length + 1 := by
  unfold waysF; split <;> simp
theorem foldl_take_succ {α β : Type} (f : β → α → β) (b : β) (l : List α) {i : Nat} {x : α} (h : l[i]? = some x) : (l.take (i + 1)).foldl f b = f ((l.take i).foldl f b) x := by
  rw [List.take_add_one, h]; simp [List.foldl_append]
theorem ways_take_mem (l : List Pt) (i : Nat) : ∀ q ∈ (l.take i).foldl waysF [], q ∈ l := by
  induction i with
  | zero => simp
  | succ i ih =>
    intro q hq
    cases hi : l[i]? with
    | none =>
      rw [List.take_of_length_le (by have := List.getElem?_eq_none_iff.1 hi; omega)] at hq
      rw [List.take_of_length_le (List.getElem?_eq_none_iff.1 hi)] at ih
      exact ih q hq
    | some x =>
      rw [foldl_take_succ _ _ _ hi] at hq
      rcases waysF_mem hq with h | h
      · exact ih q h
      · subst h; exact List.mem_of_getElem? hi
theorem ways_take_len (l : List Pt) (i : Nat) : ((l.take i).foldl waysF []).length ≤ i := by
  induction i with
  | zero => simp
  | succ i ih =>
    cases hi : l[i]? with
    | none =>
      rw [List.take_of_length_le (by have := List.getElem?_eq_none_iff.1 hi; omega)]
      rw [List.take_of_length_le (List.getElem?_eq_none_iff.1 hi)] at ih
      omega
    | some x =>
      rw [foldl_take_succ _ _ _ hi]
      have := waysF_len ((l.take i).foldl waysF []) x
      omega
theorem ways_mem {l : List Pt} {q : Pt} (h : q ∈ ways l) : q ∈ l := by
  have := ways_take_mem l l.length q
  rw [List.take_length] at this
  exact this h
theorem ways_len (l : List Pt) : (ways l).length ≤ l.length := by
  have := ways_take_len l l.length
  rwa [List.take_length] at this
/-- a point in any form -/
def IsPt (s n : Nat) (z : List LV) (q : Pt) : Prop := ∃ lx ly b l px py d, z = [.row lx, .row ly, .bool b, u32r l, .int .i64 q.id] ∧ IsInts lx px ∧ IsInts ly py ∧ IsInt (.bool b) (u32r l) d ∧ Cs s n ⟨px, py, d⟩ ∧ q.c = Crv.norm ⟨px, py, d⟩
theorem isPt_n {s n : Nat} {p : Pt} (h : PtOk s n p) : IsPt s n (ofPt p) p := by
  obtain ⟨b, l, h1, h2, h3, h4⟩ := isInt_n p.c.d
  refine ⟨_, _, decide (p.c.d < 0), limbs p.c.d.natAbs, _, _, p.c.d, rfl, isInts_n _, isInts_n _, isInt_n _, h.2, (Crv.norm_of h.1).symm⟩
def IsPts (s n : Nat) : List (List LV) → List Pt → Prop
  | [], [] => True
  | z :: zs, q :: qs => IsPt s n z q ∧ IsPts s n zs qs
  | _, _ => False
theorem IsPts.len {s n : Nat} : ∀ {zs : List (List LV)} {qs : List Pt}, IsPts s n zs qs → zs.length = qs.length
  | [], [], _ => rfl
  | _ :: _, _ :: _, h => by simp [h.2.len]
  | [], _ :: _, h => h.elim
  | _ :: _, [], h => h.elim
theorem IsPts.get {s n : Nat} : ∀ {zs : List (List LV)} {qs : List Pt}, IsPts s n zs qs → ∀ {i : Nat} {q : Pt}, qs[i]? = some q → ∃ z, zs[i]? = some z ∧ IsPt s n z q
  | [], [], _, i, q, h => by simp at h
  | z :: zs, q :: qs, h, 0, r, hr => by simp at hr; subst hr; exact ⟨z, rfl, h.1⟩
  | z :: zs, q :: qs, h, i + 1, r, hr => by simpa using h.2.get (i := i) (by simpa using hr)
  | [], _ :: _, h, _, _, _ => h.elim
  | _ :: _, [], h, _, _, _ => h.elim
theorem isPts_n {s n : Nat} : ∀ {l : List Pt}, (∀ p ∈ l, PtOk s n p) → IsPts s n (l.map ofPt) l
  | [], _ => trivial
  | p :: l, h => ⟨isPt_n (h p (List.mem_cons_self ..)), isPts_n fun q hq => h q (List.mem_cons_of_mem _ hq)⟩
theorem IsPt.ok {s n : Nat} {z : List LV} {q : Pt} (h : IsPt s n z q) (h1 : 1 ≤ s) : PtOk s n q := by
  obtain ⟨lx, ly, b, l, px, py, d, _, _, _, _, hc, e⟩ := h
  unfold PtOk
  rw [e]
  exact ⟨Crv.nml _, hc.norm h1⟩
/-- the first error, or all of them -/
theorem newL_step (acc qs : List Pt) {i : Nat} {q : Pt} (hi : qs[i]? = some q) (h : newL acc (qs.take i) = ((newL acc (qs.take i)).1, 0)) : newL acc (qs.take (i + 1)) = if putE (newL acc (qs.take i)).1 q = 0 then (put (newL acc (qs.take i)).1 q, 0) else ([], putE (newL acc (qs.take i)).1 q) := by
  induction qs generalizing acc i with
  | nil => simp at hi
  | cons x qs ih =>
    cases i with
    | zero => simp at hi; subst hi; simp [newL]
    | succ i =>
      simp only [List.take_succ_cons, newL] at h ⊢
      by_cases h0 : putE acc x = 0
      · simp only [h0, if_true] at h ⊢
        exact ih (put acc x) (by simpa using hi) h
      · simp only [h0, if_false] at h
        injection h with _ h
        exact absurd h h0
theorem newL_err (acc qs : List Pt) {i : Nat} {e : Int} (he : e ≠ 0) (h : newL acc (qs.take i) = ([], e)) : newL acc qs = ([], e) := by
  induction qs generalizing acc i with
  | nil => simp [newL] at h; exact absurd h.2.symm he
  | cons x qs ih =>
    cases i with
    | zero => simp [newL] at h; exact absurd h.2.symm he
    | succ i =>
      simp only [List.take_succ_cons, newL] at h ⊢
      by_cases h0 : putE acc x = 0
      · simp only [h0, if_true] at h ⊢; exact ih _ h
      · simp only [h0, if_false] at h ⊢; exact h
end Orr

namespace Orr
def psign (p : List Int) (q : Rat) : Int := cmpZ (pval p q.num q.den) 0
/-- the first sign that is not 0, of a polynomial and its derivatives -/
def gfirst (sgn : List Int → Int) : Nat → List Int → Int
  | 0, _ => 0
  | k + 1, p => if p.length = 0 then 0 else if sgn p = 0 then gfirst sgn k (pder p) else sgn p
theorem gfirst_fuel (sgn : List Int → Int) : ∀ (k : Nat) (p : List Int), p.length ≤ k → gfirst sgn k p = gfirst sgn p.length p
  | 0, p, h => by
    have : p.length = 0 := by omega
    rw [this]
  | k + 1, p, h => by
    cases hp : p.length with
    | zero => simp [gfirst, hp]
    | succ m =>
      simp only [gfirst]
      have h1 := len_pder p
      rw [gfirst_fuel sgn k (pder p) (by omega), gfirst_fuel sgn m (pder p) (by omega)]
theorem gfirst_zero (sgn : List Int → Int) {p : List Int} (h : p.length = 0) : gfirst sgn p.length p = 0 := by rw [h]; rfl
theorem gfirst_here (sgn : List Int → Int) {p : List Int} (h : 0 < p.length) (hs : sgn p ≠ 0) : gfirst sgn p.length p = sgn p := by
  obtain ⟨m, hm⟩ : ∃ m, p.length = m + 1 := ⟨p.length - 1, by omega⟩
  rw [hm]; simp only [gfirst]; rw [if_neg (by omega), if_neg hs]
theorem gfirst_next (sgn : List Int → Int) {p : List Int} (h : 0 < p.length) (hs : sgn p = 0) : gfirst sgn p.length p = gfirst sgn (pder p).length (pder p) := by
  obtain ⟨m, hm⟩ : ∃ m, p.length = m + 1 := ⟨p.length - 1, by omega⟩
  rw [hm]; simp only [gfirst]; rw [if_neg (by omega), if_pos hs]
  exact gfirst_fuel sgn m _ (by have := len_pder p; omega)
/-- the sign just after a rational time -/
def germAt (p : List Int) (q : Rat) : Int := gfirst (fun p => psign p q) p.length p
/-- polynomials that are small enough -/
structure Pb (p : List Int) : Prop where
  t : Trim p
  l : p.length ≤ 64
  b : Bd 16777216 p
abbrev Qb (q : Rat) : Prop := Qs 16777216 q
abbrev Cb (k : Crv) : Prop := Cs 1048576 16 k
def pright (a b : Crv) : List Int := psub (pscale b.x a.d) (pscale a.x b.d)
def pabove (a b : Crv) : List Int := psub (pscale b.y a.d) (pscale a.y b.d)
theorem pb_right {a b : Crv} (ha : Cb a) (hb : Cb b) : Pb (pright a b) ∧ (pright a b).length ≤ 16 ∧ Bd 2097153 (pright a b) := by
  have h1 : Bd 2097153 (pright a b) := bd_mono (bd_psub (bd_pscale hb.x ha.d) (bd_pscale ha.x hb.d)) (by omega)
  have h2 : (pright a b).length ≤ 16 := by
    refine Nat.le_trans (len_psub _ _) ?_
    have := len_pscale b.x a.d; have := len_pscale a.x b.d; have := ha.lx; have := hb.lx
    omega
  exact ⟨⟨each_trim _ _, by omega, bd_mono h1 (by omega)⟩, h2, h1⟩
theorem pb_above {a b : Crv} (ha : Cb a) (hb : Cb b) : Pb (pabove a b) ∧ (pabove a b).length ≤ 16 ∧ Bd 2097153 (pabove a b) := by
  have h1 : Bd 2097153 (pabove a b) := bd_mono (bd_psub (bd_pscale hb.y ha.d) (bd_pscale ha.y hb.d)) (by omega)
  have h2 : (pabove a b).length ≤ 16 := by
    refine Nat.le_trans (len_psub _ _) ?_
    have := len_pscale b.y a.d; have := len_pscale a.y b.d; have := ha.ly; have := hb.ly
    omega
  exact ⟨⟨each_trim _ _, by omega, bd_mono h1 (by omega)⟩, h2, h1⟩
/-- by the first polynomial that is not 0 for ever; by names, if there is none -/
def pfirst (q : Rat) (a b : Pt) : List (List Int) → Bool
  | [] => decide (a.id < b.id)
  | p :: l => if 0 < p.length then decide (0 < germAt p q) else pfirst q a b l
def before (q : Rat) (a b : Pt) : Bool := pfirst q a b [pright a.c b.c, pabove a.c b.c]
def pls (l : List (List Int)) : LV := .row (l.map fun p => [pl p])
theorem rlen_pls (l : List (List Int)) : rlen (pls l) = some l.length := by simp [rlen, pls]
theorem pfirst_drop (q : Rat) (a b : Pt) : ∀ {l : List (List Int)} {i : Nat}, (∀ j p, j < i → l[j]? = some p → p.length = 0) → pfirst q a b l = pfirst q a b (l.drop i)
  | l, 0, _ => by simp
  | [], i + 1, _ => by simp
  | p :: l, i + 1, h => by
    have h0 := h 0 p (by omega) rfl
    simp only [pfirst, List.drop_succ_cons]
    rw [if_neg (by omega)]
    exact pfirst_drop q a b fun j r hj hr => h (j + 1) r (by omega) (by simpa using hr)
theorem pfirst_at (q : Rat) (a b : Pt) {l : List (List Int)} {i : Nat} {p : List Int} (hp : l[i]? = some p) (h : 0 < p.length) : pfirst q a b (l.drop i) = decide (0 < germAt p q) := by
  obtain ⟨hi, e⟩ := List.getElem?_eq_some_iff.1 hp
  rw [List.drop_eq_getElem_cons hi, e]
  simp only [pfirst]
  rw [if_pos h]
end Orr

namespace Orr
open Go Go.Proofs
theorem d_ratio_lowest {n d : Int} (h0 : d ≠ 0) (hn : isz n ≤ 4294967295) (hd : isz d ≤ 4294967295) : Does Tryz.prog 313 [.agg [sg n, mg n], .agg [sg d, mg d]] (.agg [sg (((Rat.divInt n d)).num), mg (((Rat.divInt n d)).num), sg ((((Rat.divInt n d)).den : Int)), mg ((((Rat.divInt n d)).den : Int))]) := by
  refine does_ (n := 31) Tryz.func313 rfl Tryz.ntmps313 rfl ?_
  have hg0 := gcdL_pos (n := n) h0
  have hgs := isz_gcd (n := n) h0 hd
  have hm1 := gcdL_dvd_l n d
  have hm2 := gcdL_dvd_r n d
  rcases Int.lt_or_gt_of_ne h0 with hneg | hpos
  · skip
    refine ac_seq ?_
    refine ac_reg ?_
    refine a_box rfl rfl rfl fun g1 => ?_
    refine a_box rfl rfl rfl fun g2 => ?_
    refine a_alloc Tryz.zeroValue57 rfl rfl fun g3 => ?_
    refine aw_nil ?_
    refine ac_seq ?_
    refine ac_reg ?_
    refine w_ (p_loadOw 2 Tryz.isAgg55 Tryz.sizeOf55 rfl rfl rfl rfl rfl) ?_
    refine w_ (p_loadOw 1 Tryz.isAgg55 Tryz.sizeOf55 rfl rfl rfl rfl rfl) ?_
    refine w_ (p_lit Tryz.runUnderlying51 Tryz.sizeOf55 Tryz.zeroValue55 rfl rfl rfl rfl rfl rfl rfl rfl rfl rfl) ?_
    refine w_ (p_call Tryz.func264 rfl rfl rfl rfl (d_whole_Gcd (isInts_n [n, d]) (by intro z hz; simp only [List.mem_cons, List.not_mem_nil, or_false] at hz; rcases hz with rfl | rfl <;> assumption)) rfl) ?_
    refine a_alloc Tryz.zeroValue55 rfl rfl fun g4 => ?_
    refine a_storeOw 0 Tryz.sizeOf55 rfl rfl rfl rfl rfl rfl rfl ?_
    refine aw_nil ?_
    refine ac_seq ?_
    refine ac_seq ?_
    refine ac_reg ?_
    refine w_ (p_fieldOw fa_55_0 rfl rfl) ?_
    refine w_ (p_loadOw 2 Tryz.isAgg4 Tryz.sizeOf4 rfl rfl rfl rfl rfl) ?_
    refine aw_nil ?_
    refine ac_t rfl (decide_eq_true hneg) ?_
    refine ac_draw mixed_ 3 [12, 13, 14] [[], [0], []] [.agg [sg n, mg n], .agg [sg (-n), mg (-n)], .agg [sg d, mg d]] rfl rfl rfl ⟨p_loadOw 3 Tryz.isAgg55 Tryz.sizeOf55 rfl rfl rfl rfl rfl, p_call Tryz.func194 rfl rfl rfl rfl (d_whole_Neg (isInt_n _) (hn)) rfl, p_loadOw 2 Tryz.isAgg55 Tryz.sizeOf55 rfl rfl rfl rfl rfl, trivial⟩ rfl ?_
    refine w_ (p_call Tryz.func194 rfl rfl rfl rfl (d_whole_Neg (isInt_n _) (hd)) rfl) ?_
    refine a_storeOw 3 Tryz.sizeOf55 rfl rfl rfl rfl rfl rfl rfl ?_
    refine a_storeOw 2 Tryz.sizeOf55 rfl rfl rfl rfl rfl rfl rfl ?_
    refine aw_nil ?_
    refine ac_seq ?_
    refine ac_reg ?_
    refine w_ (p_loadOw 3 Tryz.isAgg55 Tryz.sizeOf55 rfl rfl rfl rfl rfl) ?_
    refine w_ (p_loadOw 0 Tryz.isAgg55 Tryz.sizeOf55 rfl rfl rfl rfl rfl) ?_
    refine w_ (p_call Tryz.func265 rfl rfl rfl rfl (d_whole_Exact (isInt_n _) (isInt_n _) (by rw [isz_neg]; exact hn) (hgs) (by omega) (neg_mod hm1)) rfl) ?_
    refine w_ (p_move rfl rfl) ?_
    refine w_ (p_extract rfl rfl rfl) ?_
    refine w_ (p_extract rfl rfl rfl) ?_
    refine a_storeOw 3 Tryz.sizeOf55 rfl rfl rfl rfl rfl rfl rfl ?_
    refine aw_nil ?_
    refine ac_seq ?_
    refine ac_reg ?_
    refine w_ (p_loadOw 2 Tryz.isAgg55 Tryz.sizeOf55 rfl rfl rfl rfl rfl) ?_
    refine w_ (p_loadOw 0 Tryz.isAgg55 Tryz.sizeOf55 rfl rfl rfl rfl rfl) ?_
    refine w_ (p_call Tryz.func265 rfl rfl rfl rfl (d_whole_Exact (isInt_n _) (isInt_n _) (by rw [isz_neg]; exact hd) (hgs) (by omega) (neg_mod hm2)) rfl) ?_
    refine w_ (p_move rfl rfl) ?_
    refine w_ (p_extract rfl rfl rfl) ?_
    refine w_ (p_extract rfl rfl rfl) ?_
    refine a_storeOw 2 Tryz.sizeOf55 rfl rfl rfl rfl rfl rfl rfl ?_
    refine aw_nil ?_
    refine ac_seq ?_
    refine ac_reg ?_
    refine w_ (p_loadOw 3 Tryz.isAgg55 Tryz.sizeOf55 rfl rfl rfl rfl rfl) ?_
    refine w_ (p_loadOw 2 Tryz.isAgg55 Tryz.sizeOf55 rfl rfl rfl rfl rfl) ?_
    refine w_ (p_build (bd_57) rfl rfl rfl rfl) ?_
    refine a_storeOw 1 Tryz.sizeOf57 rfl rfl rfl rfl rfl rfl rfl ?_
    refine aw_nil ?_
    refine ac_ret ?_
    exact retB_1 Tryz.results313 (rv_cell 1 Tryz.isAgg57 Tryz.sizeOf57 rfl rfl rfl rfl rfl) (rl_eq (low_neg hneg).1 (low_neg hneg).2)
  · skip
    refine ac_seq ?_
    refine ac_reg ?_
    refine a_box rfl rfl rfl fun g5 => ?_
    refine a_box rfl rfl rfl fun g6 => ?_
    refine a_alloc Tryz.zeroValue57 rfl rfl fun g7 => ?_
    refine aw_nil ?_
    refine ac_seq ?_
    refine ac_reg ?_
    refine w_ (p_loadOw 2 Tryz.isAgg55 Tryz.sizeOf55 rfl rfl rfl rfl rfl) ?_
    refine w_ (p_loadOw 1 Tryz.isAgg55 Tryz.sizeOf55 rfl rfl rfl rfl rfl) ?_
    refine w_ (p_lit Tryz.runUnderlying51 Tryz.sizeOf55 Tryz.zeroValue55 rfl rfl rfl rfl rfl rfl rfl rfl rfl rfl) ?_
    refine w_ (p_call Tryz.func264 rfl rfl rfl rfl (d_whole_Gcd (isInts_n [n, d]) (by intro z hz; simp only [List.mem_cons, List.not_mem_nil, or_false] at hz; rcases hz with rfl | rfl <;> assumption)) rfl) ?_
    refine a_alloc Tryz.zeroValue55 rfl rfl fun g8 => ?_
    refine a_storeOw 0 Tryz.sizeOf55 rfl rfl rfl rfl rfl rfl rfl ?_
    refine aw_nil ?_
    refine ac_seq ?_
    refine ac_seq ?_
    refine ac_reg ?_
    refine w_ (p_fieldOw fa_55_0 rfl rfl) ?_
    refine w_ (p_loadOw 2 Tryz.isAgg4 Tryz.sizeOf4 rfl rfl rfl rfl rfl) ?_
    refine aw_nil ?_
    refine ac_f rfl (decide_eq_false (by omega)) ?_
    refine ac_skip ?_
    refine ac_seq ?_
    refine ac_reg ?_
    refine w_ (p_loadOw 3 Tryz.isAgg55 Tryz.sizeOf55 rfl rfl rfl rfl rfl) ?_
    refine w_ (p_loadOw 0 Tryz.isAgg55 Tryz.sizeOf55 rfl rfl rfl rfl rfl) ?_
    refine w_ (p_call Tryz.func265 rfl rfl rfl rfl (d_whole_Exact (isInt_n _) (isInt_n _) (hn) (hgs) (by omega) (hm1)) rfl) ?_
    refine w_ (p_move rfl rfl) ?_
    refine w_ (p_extract rfl rfl rfl) ?_
    refine w_ (p_extract rfl rfl rfl) ?_
    refine a_storeOw 3 Tryz.sizeOf55 rfl rfl rfl rfl rfl rfl rfl ?_
    refine aw_nil ?_
    refine ac_seq ?_
    refine ac_reg ?_
    refine w_ (p_loadOw 2 Tryz.isAgg55 Tryz.sizeOf55 rfl rfl rfl rfl rfl) ?_
    refine w_ (p_loadOw 0 Tryz.isAgg55 Tryz.sizeOf55 rfl rfl rfl rfl rfl) ?_
    refine w_ (p_call Tryz.func265 rfl rfl rfl rfl (d_whole_Exact (isInt_n _) (isInt_n _) (hd) (hgs) (by omega) (hm2)) rfl) ?_
    refine w_ (p_move rfl rfl) ?_
    refine w_ (p_extract rfl rfl rfl) ?_
    refine w_ (p_extract rfl rfl rfl) ?_
    refine a_storeOw 2 Tryz.sizeOf55 rfl rfl rfl rfl rfl rfl rfl ?_
    refine aw_nil ?_
    refine ac_seq ?_
    refine ac_reg ?_
    refine w_ (p_loadOw 3 Tryz.isAgg55 Tryz.sizeOf55 rfl rfl rfl rfl rfl) ?_
    refine w_ (p_loadOw 2 Tryz.isAgg55 Tryz.sizeOf55 rfl rfl rfl rfl rfl) ?_
    refine w_ (p_build (bd_57) rfl rfl rfl rfl) ?_
    refine a_storeOw 1 Tryz.sizeOf57 rfl rfl rfl rfl rfl rfl rfl ?_
    refine aw_nil ?_
    refine ac_ret ?_
    exact retB_1 Tryz.results313 (rv_cell 1 Tryz.isAgg57 Tryz.sizeOf57 rfl rfl rfl rfl rfl) (rl_eq (low_pos hpos).1 (low_pos hpos).2)

theorem d_ratio_norm {b1 b2 : Bool} {l1 l2 : List Nat} {n d : Int} (h1 : IsInt (.bool b1) (u32r l1) n) (h2 : IsInt (.bool b2) (u32r l2) d) (hn : isz n ≤ 4294967295) (hd : isz d ≤ 4294967295) : Does Tryz.prog 268 [.agg [.bool b1, u32r l1, .bool b2, u32r l2]] (.agg [sg (((ratOf n d)).num), mg (((ratOf n d)).num), sg ((((ratOf n d)).den : Int)), mg ((((ratOf n d)).den : Int))]) := by
  refine does_ (n := 15) Tryz.func268 rfl Tryz.ntmps268 rfl ?_
  by_cases h0 : d = 0
  · skip
    refine ac_seq ?_
    refine ac_reg ?_
    refine w_ (p_boxS rfl rfl rfl rfl) ?_
    refine a_alloc Tryz.zeroValue57 rfl rfl fun g1 => ?_
    refine aw_nil ?_
    refine ac_seq ?_
    refine ac_reg ?_
    refine w_ (p_fieldSh fa_57_1 rfl rfl rfl) ?_
    refine w_ (p_loadSh Tryz.isAgg55 Tryz.sizeOf55 rfl rfl rfl rfl) ?_
    refine w_ (p_call Tryz.func251 rfl rfl rfl rfl (d_whole_Norm h2 (hd)) rfl) ?_
    refine a_alloc Tryz.zeroValue55 rfl rfl fun g2 => ?_
    refine a_storeOw 0 Tryz.sizeOf55 rfl rfl rfl rfl rfl rfl rfl ?_
    refine aw_nil ?_
    refine ac_seq ?_
    refine ac_seq ?_
    refine ac_reg ?_
    refine w_ (p_loadOw 0 Tryz.isAgg55 Tryz.sizeOf55 rfl rfl rfl rfl rfl) ?_
    refine w_ (p_call Tryz.func252 rfl rfl rfl rfl ((d_ZeroN _) ) rfl) ?_
    refine aw_nil ?_
    refine ac_t rfl (decide_eq_true h0) ?_
    refine ac_reg ?_
    refine w_ (p_call Tryz.func191 rfl rfl rfl rfl (d_whole_Of (by omega)) rfl) ?_
    refine a_storeOw 0 Tryz.sizeOf55 rfl rfl rfl rfl rfl rfl rfl ?_
    refine aw_nil ?_
    refine ac_seq ?_
    refine ac_draw mixed_ 4 [10, 11, 12, 13] [[], [0], [1], []] [.one (.sh [.bool b1, u32r l1, .bool b2, u32r l2]), .agg [.bool b1, u32r l1], .agg [sg n, mg n], .agg [sg 1, mg 1]] rfl rfl rfl ⟨p_fieldSh fa_57_0 rfl rfl rfl, p_loadSh Tryz.isAgg55 Tryz.sizeOf55 rfl rfl rfl rfl, p_call Tryz.func251 rfl rfl rfl rfl (d_whole_Norm h1 (hn)) rfl, p_loadOw 0 Tryz.isAgg55 Tryz.sizeOf55 rfl rfl rfl rfl rfl, trivial⟩ rfl ?_
    refine w_ (p_call Tryz.func313 rfl rfl rfl rfl (d_ratio_lowest (by decide) (hn) (by decide)) rfl) ?_
    refine a_storeOw 1 Tryz.sizeOf57 rfl rfl rfl rfl rfl rfl rfl ?_
    refine aw_nil ?_
    refine ac_ret ?_
    exact retB_1 Tryz.results268 (rv_cell 1 Tryz.isAgg57 Tryz.sizeOf57 rfl rfl rfl rfl rfl) (by unfold ratOf; rw [if_pos h0])
  · skip
    refine ac_seq ?_
    refine ac_reg ?_
    refine w_ (p_boxS rfl rfl rfl rfl) ?_
    refine a_alloc Tryz.zeroValue57 rfl rfl fun g3 => ?_
    refine aw_nil ?_
    refine ac_seq ?_
    refine ac_reg ?_
    refine w_ (p_fieldSh fa_57_1 rfl rfl rfl) ?_
    refine w_ (p_loadSh Tryz.isAgg55 Tryz.sizeOf55 rfl rfl rfl rfl) ?_
    refine w_ (p_call Tryz.func251 rfl rfl rfl rfl (d_whole_Norm h2 (hd)) rfl) ?_
    refine a_alloc Tryz.zeroValue55 rfl rfl fun g4 => ?_
    refine a_storeOw 0 Tryz.sizeOf55 rfl rfl rfl rfl rfl rfl rfl ?_
    refine aw_nil ?_
    refine ac_seq ?_
    refine ac_seq ?_
    refine ac_reg ?_
    refine w_ (p_loadOw 0 Tryz.isAgg55 Tryz.sizeOf55 rfl rfl rfl rfl rfl) ?_
    refine w_ (p_call Tryz.func252 rfl rfl rfl rfl ((d_ZeroN _) ) rfl) ?_
    refine aw_nil ?_
    refine ac_f rfl (decide_eq_false h0) ?_
    refine ac_skip ?_
    refine ac_seq ?_
    refine ac_draw mixed_ 4 [10, 11, 12, 13] [[], [0], [1], []] [.one (.sh [.bool b1, u32r l1, .bool b2, u32r l2]), .agg [.bool b1, u32r l1], .agg [sg n, mg n], .agg [sg d, mg d]] rfl rfl rfl ⟨p_fieldSh fa_57_0 rfl rfl rfl, p_loadSh Tryz.isAgg55 Tryz.sizeOf55 rfl rfl rfl rfl, p_call Tryz.func251 rfl rfl rfl rfl (d_whole_Norm h1 (hn)) rfl, p_loadOw 0 Tryz.isAgg55 Tryz.sizeOf55 rfl rfl rfl rfl rfl, trivial⟩ rfl ?_
    refine w_ (p_call Tryz.func313 rfl rfl rfl rfl (d_ratio_lowest (h0) (hn) (hd)) rfl) ?_
    refine a_storeOw 1 Tryz.sizeOf57 rfl rfl rfl rfl rfl rfl rfl ?_
    refine aw_nil ?_
    refine ac_ret ?_
    exact retB_1 Tryz.results268 (rv_cell 1 Tryz.isAgg57 Tryz.sizeOf57 rfl rfl rfl rfl rfl) (by unfold ratOf; rw [if_neg h0])

theorem d_ratio_normQ {q : Rat} (hq : Qs 4294967295 q) : Does Tryz.prog 268 [.agg (rl q)] (.agg (rl q)) := by
  have h := d_ratio_norm (isInt_n q.num) (isInt_n (q.den : Int)) hq.1 hq.2
  rwa [ratOf_q] at h

set_option maxRecDepth 20000 in
theorem d_ratio_cross {a b : Rat} (ha : Qs 2147483647 a) (hb : Qs 2147483647 b) : Does Tryz.prog 314 [.agg [sg a.num, mg a.num, sg ((a.den : Int)), mg ((a.den : Int))], .agg [sg b.num, mg b.num, sg ((b.den : Int)), mg ((b.den : Int))]] (.tup [.agg [sg (a.num * (b.den : Int)), mg (a.num * (b.den : Int))], .agg [sg (b.num * (a.den : Int)), mg (b.num * (a.den : Int))], .agg [sg ((a.den : Int) * (b.den : Int)), mg ((a.den : Int) * (b.den : Int))]]) := by
  refine does_ (n := 26) Tryz.func314 rfl Tryz.ntmps314 rfl ?_
  refine ac_seq ?_
  refine ac_reg ?_
  refine a_box rfl rfl rfl fun g1 => ?_
  refine a_box rfl rfl rfl fun g2 => ?_
  refine a_alloc Tryz.zeroValue55 rfl rfl fun g3 => ?_
  refine a_alloc Tryz.zeroValue55 rfl rfl fun g4 => ?_
  refine a_alloc Tryz.zeroValue55 rfl rfl fun g5 => ?_
  refine aw_nil ?_
  refine ac_seq ?_
  refine ac_draw mixed_ 3 [7, 8, 9] [[], [0], []] [.agg [sg a.num, mg a.num, sg ((a.den : Int)), mg ((a.den : Int))], .agg [sg a.num, mg a.num, sg ((a.den : Int)), mg ((a.den : Int))], .agg [sg b.num, mg b.num, sg ((b.den : Int)), mg ((b.den : Int))]] rfl rfl rfl ⟨p_loadOw 4 Tryz.isAgg57 Tryz.sizeOf57 rfl rfl rfl rfl rfl, p_call Tryz.func268 rfl rfl rfl rfl (d_ratio_normQ (ha.mono (by omega))) rfl, p_loadOw 3 Tryz.isAgg57 Tryz.sizeOf57 rfl rfl rfl rfl rfl, trivial⟩ rfl ?_
  refine w_ (p_call Tryz.func268 rfl rfl rfl rfl (d_ratio_normQ (hb.mono (by omega))) rfl) ?_
  refine a_storeOw 4 Tryz.sizeOf57 rfl rfl rfl rfl rfl rfl rfl ?_
  refine a_storeOw 3 Tryz.sizeOf57 rfl rfl rfl rfl rfl rfl rfl ?_
  refine aw_nil ?_
  refine ac_seq ?_
  refine ac_draw mixed_ 14 [11, 12, 13, 14, 15, 16, 17, 18, 19, 20, 21, 22, 23, 24] [[], [0], [], [2], [1, 3], [], [5], [], [7], [6, 8], [], [10], [], [12]] [.one (.ow g1 0), .agg [sg a.num, mg a.num], .one (.ow g2 2), .agg [sg ((b.den : Int)), mg ((b.den : Int))], .agg [sg (a.num * ((b.den : Int))), mg (a.num * ((b.den : Int)))], .one (.ow g2 0), .agg [sg b.num, mg b.num], .one (.ow g1 2), .agg [sg ((a.den : Int)), mg ((a.den : Int))], .agg [sg (b.num * ((a.den : Int))), mg (b.num * ((a.den : Int)))], .one (.ow g1 2), .agg [sg ((a.den : Int)), mg ((a.den : Int))], .one (.ow g2 2), .agg [sg ((b.den : Int)), mg ((b.den : Int))]] rfl rfl rfl ⟨p_fieldOw fa_57_0 rfl rfl, p_loadOw 4 Tryz.isAgg55 Tryz.sizeOf55 rfl rfl rfl rfl rfl, p_fieldOw fa_57_1 rfl rfl, p_loadOw 3 Tryz.isAgg55 Tryz.sizeOf55 rfl rfl rfl rfl rfl, p_call Tryz.func169 rfl rfl rfl rfl (d_whole_Mul (isInt_n _) (isInt_n _) (Nat.le_trans ha.1 (by omega)) (Nat.le_trans hb.2 (by omega))) rfl, p_fieldOw fa_57_0 rfl rfl, p_loadOw 3 Tryz.isAgg55 Tryz.sizeOf55 rfl rfl rfl rfl rfl, p_fieldOw fa_57_1 rfl rfl, p_loadOw 4 Tryz.isAgg55 Tryz.sizeOf55 rfl rfl rfl rfl rfl, p_call Tryz.func169 rfl rfl rfl rfl (d_whole_Mul (isInt_n _) (isInt_n _) (Nat.le_trans hb.1 (by omega)) (Nat.le_trans ha.2 (by omega))) rfl, p_fieldOw fa_57_1 rfl rfl, p_loadOw 4 Tryz.isAgg55 Tryz.sizeOf55 rfl rfl rfl rfl rfl, p_fieldOw fa_57_1 rfl rfl, p_loadOw 3 Tryz.isAgg55 Tryz.sizeOf55 rfl rfl rfl rfl rfl, trivial⟩ rfl ?_
  refine w_ (p_call Tryz.func169 rfl rfl rfl rfl (d_whole_Mul (isInt_n _) (isInt_n _) (Nat.le_trans ha.2 (by omega)) (Nat.le_trans hb.2 (by omega))) rfl) ?_
  refine a_storeOw 2 Tryz.sizeOf55 rfl rfl rfl rfl rfl rfl rfl ?_
  refine a_storeOw 1 Tryz.sizeOf55 rfl rfl rfl rfl rfl rfl rfl ?_
  refine a_storeOw 0 Tryz.sizeOf55 rfl rfl rfl rfl rfl rfl rfl ?_
  refine aw_nil ?_
  refine ac_ret ?_
  exact retB_3 Tryz.results314 (rv_cell 2 Tryz.isAgg55 Tryz.sizeOf55 rfl rfl rfl rfl rfl) (rv_cell 1 Tryz.isAgg55 Tryz.sizeOf55 rfl rfl rfl rfl rfl) (rv_cell 0 Tryz.isAgg55 Tryz.sizeOf55 rfl rfl rfl rfl rfl) (rfl)

theorem d_ratio_Cmp {a b : Rat} (ha : Qs 2147483647 a) (hb : Qs 2147483647 b) : Does Tryz.prog 269 [.agg [sg a.num, mg a.num, sg ((a.den : Int)), mg ((a.den : Int))], .agg [sg b.num, mg b.num, sg ((b.den : Int)), mg ((b.den : Int))]] (.one (.int .i64 (cmpQ a b))) := by
  refine does_ (n := 18) Tryz.func269 rfl Tryz.ntmps269 rfl ?_
  refine ac_seq ?_
  refine ac_reg ?_
  refine w_ (p_boxS rfl rfl rfl rfl) ?_
  refine w_ (p_boxS rfl rfl rfl rfl) ?_
  refine w_ (p_assign rfl rfl) ?_
  refine aw_nil ?_
  refine ac_seq ?_
  refine ac_reg ?_
  refine w_ (p_loadSh Tryz.isAgg57 Tryz.sizeOf57 rfl rfl rfl rfl) ?_
  refine w_ (p_loadSh Tryz.isAgg57 Tryz.sizeOf57 rfl rfl rfl rfl) ?_
  refine w_ (p_call Tryz.func314 rfl rfl rfl rfl (d_ratio_cross (ha) (hb)) rfl) ?_
  refine w_ (p_move rfl rfl) ?_
  refine w_ (p_extract rfl rfl rfl) ?_
  refine w_ (p_extract rfl rfl rfl) ?_
  refine w_ (p_extract rfl rfl rfl) ?_
  refine a_alloc Tryz.zeroValue55 rfl rfl fun g1 => ?_
  refine a_alloc Tryz.zeroValue55 rfl rfl fun g2 => ?_
  refine a_alloc Tryz.zeroValue55 rfl rfl fun g3 => ?_
  refine a_storeOw 2 Tryz.sizeOf55 rfl rfl rfl rfl rfl rfl rfl ?_
  refine a_storeOw 1 Tryz.sizeOf55 rfl rfl rfl rfl rfl rfl rfl ?_
  refine a_storeOw 0 Tryz.sizeOf55 rfl rfl rfl rfl rfl rfl rfl ?_
  refine aw_nil ?_
  refine ac_seq ?_
  refine ac_reg ?_
  refine w_ (p_loadOw 2 Tryz.isAgg55 Tryz.sizeOf55 rfl rfl rfl rfl rfl) ?_
  refine w_ (p_loadOw 1 Tryz.isAgg55 Tryz.sizeOf55 rfl rfl rfl rfl rfl) ?_
  refine w_ (p_call Tryz.func291 rfl rfl rfl rfl (d_whole_Cmp (isInt_n _) (isInt_n _) (Nat.le_trans (isz_mul _ _) (by have := ha.1; have := hb.2; omega)) (Nat.le_trans (isz_mul _ _) (by have := hb.1; have := ha.2; omega))) rfl) ?_
  refine w_ (p_assign rfl rfl) ?_
  refine aw_nil ?_
  refine ac_ret ?_
  exact retB_1 Tryz.results269 (rv_tmp rfl rfl) (rfl)

theorem d_ratio_Max {b1 b2 : Bool} {l1 l2 : List Nat} {n d : Int} (h1 : IsInt (.bool b1) (u32r l1) n) (h2 : IsInt (.bool b2) (u32r l2) d) (hn : isz n ≤ 4294967295) (hd : isz d ≤ 4294967295) : Does Tryz.prog 193 [.agg [.bool b1, u32r l1, .bool b2, u32r l2], .one (.row ([]))] (.agg [sg (((ratOf n d)).num), mg (((ratOf n d)).num), sg ((((ratOf n d)).den : Int)), mg ((((ratOf n d)).den : Int))]) := by
  refine does_ (n := 24) Tryz.func193 rfl Tryz.ntmps193 rfl ?_
  refine ac_seq ?_
  refine ac_reg ?_
  refine w_ (p_boxS rfl rfl rfl rfl) ?_
  refine a_alloc Tryz.zeroValue57 rfl rfl fun g1 => ?_
  refine aw_nil ?_
  refine ac_seq ?_
  refine ac_reg ?_
  refine w_ (p_loadSh Tryz.isAgg57 Tryz.sizeOf57 rfl rfl rfl rfl) ?_
  refine w_ (p_call Tryz.func268 rfl rfl rfl rfl (d_ratio_norm h1 h2 hn hd) rfl) ?_
  refine a_alloc Tryz.zeroValue57 rfl rfl fun g2 => ?_
  refine a_storeOw 0 Tryz.sizeOf57 rfl rfl rfl rfl rfl rfl rfl ?_
  refine aw_nil ?_
  refine ac_seq ?_
  refine ac_seq ?_
  refine ac_reg ?_
  refine w_ (p_move rfl rfl) ?_
  refine w_ (p_len (m := 0) Tryz.runUnderlying320 rfl rfl rfl) ?_
  refine w_ (p_move rfl rfl) ?_
  refine aw_nil ?_
  refine ac_block ?_
  refine ac_pick [4, 5, 11, 12] rfl ?_
  refine ac_loop (fun m L B => m = 0 ∧ L = [(4, .one (.ow g1 0)), (5, .one (.ow g2 0)), (11, .one (.int .i64 (((0 : Nat) : Int)))), (12, .one (.int .i64 0))] ∧ B = [.blk g2 57 [sg (((ratOf n d)).num), mg (((ratOf n d)).num), sg ((((ratOf n d)).den : Int)), mg ((((ratOf n d)).den : Int))], .blk g1 57 [.bool false, .nils, .bool false, .nils]]) (m := _) ⟨rfl, rfl, rfl⟩ ?_
  rintro m L B ⟨hm, rfl, rfl⟩
  skip
  · skip
    refine ac_seq ?_
    refine ac_reg ?_
    refine w_ (p_cmp rfl rfl rfl rfl) ?_
    refine aw_nil ?_
    refine ac_seq ?_
    refine ac_f rfl (rfl) ?_
    refine ac_exit ?_
    repeat refine seqQ_exit ?_
    refine blkQ_here ?_
    refine ac_seq ?_
    refine ac_reg ?_
    refine w_ (p_loadOw 0 Tryz.isAgg57 Tryz.sizeOf57 rfl rfl rfl rfl rfl) ?_
    refine a_storeOw 1 Tryz.sizeOf57 rfl rfl rfl rfl rfl rfl rfl ?_
    refine aw_nil ?_
    refine ac_ret ?_
    exact retB_1 Tryz.results193 (rv_cell 1 Tryz.isAgg57 Tryz.sizeOf57 rfl rfl rfl rfl rfl) (rfl)

theorem d_ratio_Max1 {q : Rat} (hq : Qs 4294967295 q) : Does Tryz.prog 193 [.agg (rl q), .one (.row [])] (.agg (rl q)) := by
  have h := d_ratio_Max (isInt_n q.num) (isInt_n (q.den : Int)) hq.1 hq.2
  rwa [ratOf_q] at h

theorem d_poly_plain {q : Rat} (hq : Qs 4294967295 q) : Does Tryz.prog 297 [.agg [sg q.num, mg q.num, sg ((q.den : Int)), mg ((q.den : Int))]] (.agg [sg q.num, mg q.num, sg ((q.den : Int)), mg ((q.den : Int))]) := by
  refine does_ (n := 5) Tryz.func297 rfl Tryz.ntmps297 rfl ?_
  refine ac_seq ?_
  refine ac_reg ?_
  refine w_ (p_boxS rfl rfl rfl rfl) ?_
  refine a_alloc Tryz.zeroValue57 rfl rfl fun g1 => ?_
  refine aw_nil ?_
  refine ac_seq ?_
  refine ac_reg ?_
  refine w_ (p_loadSh Tryz.isAgg57 Tryz.sizeOf57 rfl rfl rfl rfl) ?_
  refine w_ (p_call Tryz.func193 rfl rfl rfl rfl (d_ratio_Max1 (hq)) rfl) ?_
  refine a_storeOw 0 Tryz.sizeOf57 rfl rfl rfl rfl rfl rfl rfl ?_
  refine aw_nil ?_
  refine ac_ret ?_
  exact retB_1 Tryz.results297 (rv_cell 0 Tryz.isAgg57 Tryz.sizeOf57 rfl rfl rfl rfl rfl) (rfl)

set_option maxRecDepth 20000 in
theorem d_poly_Sign {p : List Int} {q : Rat} {s t : Nat} (tp : Trim p) (hl : p.length < 274877906944) (hp : Bd s p) (hq : Qs t q) (hst : s + p.length * (t + 1) + 2 * t + 10 ≤ 4294967295) : Does Tryz.prog 241 [.one (pl p), .agg [sg q.num, mg q.num, sg ((q.den : Int)), mg ((q.den : Int))]] (.one (.int .i64 (psign p q))) := by
  refine does_ (n := 16) Tryz.func241 rfl Tryz.ntmps241 rfl ?_
  refine ac_seq ?_
  refine ac_reg ?_
  refine a_box rfl rfl rfl fun g1 => ?_
  refine w_ (p_assign rfl rfl) ?_
  refine aw_nil ?_
  refine ac_seq ?_
  refine ac_reg ?_
  refine w_ (p_loadOw 0 Tryz.isAgg57 Tryz.sizeOf57 rfl rfl rfl rfl rfl) ?_
  refine w_ (p_call Tryz.func297 rfl rfl rfl rfl (d_poly_plain (hq.mono (by omega))) rfl) ?_
  refine a_storeOw 0 Tryz.sizeOf57 rfl rfl rfl rfl rfl rfl rfl ?_
  refine aw_nil ?_
  refine ac_seq ?_
  refine ac_draw mixed_ 8 [7, 8, 9, 10, 11, 12, 13, 14] [[], [0], [], [2], [], [4], [1, 3, 5], []] [.one (pl p), .one (pl p), .one (.ow g1 0), .agg [sg q.num, mg q.num], .one (.ow g1 2), .agg [sg ((q.den : Int)), mg ((q.den : Int))], .agg [sg (pval p q.num ((q.den : Int))), mg (pval p q.num ((q.den : Int)))], .agg [.bool false, .nils]] rfl rfl rfl ⟨p_move rfl rfl, p_call Tryz.func189 rfl rfl rfl rfl (d_poly_NormT tp hl (bd_mono hp (by omega))) rfl, p_fieldOw fa_57_0 rfl rfl, p_loadOw 0 Tryz.isAgg55 Tryz.sizeOf55 rfl rfl rfl rfl rfl, p_fieldOw fa_57_1 rfl rfl, p_loadOw 0 Tryz.isAgg55 Tryz.sizeOf55 rfl rfl rfl rfl rfl, p_call Tryz.func298 rfl rfl rfl rfl (d_poly_value (hl) (hp) (hq.1) (hq.2) (hst)) rfl, p_build (bd_55) rfl rfl rfl rfl, trivial⟩ rfl ?_
  refine w_ (p_call Tryz.func291 rfl rfl rfl rfl (d_whole_Cmp (isInt_n _) isInt_zero (Nat.le_trans (valk_bd hp hq.1 hq.2).1 (by omega)) (by decide)) rfl) ?_
  refine w_ (p_assign rfl rfl) ?_
  refine aw_nil ?_
  refine ac_ret ?_
  exact retB_1 Tryz.results241 (rv_tmp rfl rfl) (rfl)

end Orr

namespace Orr
open Go
variable {P : Program} {ops : Array Oper} {n : Nat} {rest : List Oper} {N : Sg → List OB → Prop} {L : Sg} {B : List OB} {Q : Exit → Sg → List OB → Prop}
variable {d : Nat} {ty : TypeId} {pos : String} {after : Array Edge}
/-- more own blocks do not matter to an operation that only reckons -/
theorem AP.frame {o : Oper} {u : AV} (h : AP P ops n o d u L B) : ∀ (K Ob : Nat → Prop) (w0 w : World) (a : Act) (Bx Bs : List Blk) (L' : List (Nat × Value)) (Fs : List Fact), St K Ob w0 w a n L' Fs (Bx ++ Bs) →
    (∀ t x, lk L t = some x → ∃ v, look L' t = some v ∧ ARep w (owns Ob (Bx ++ Bs)) v x) → BsRep w (owns Ob (Bx ++ Bs)) B Bs →
    wpList P ops (fun e a' w' => e = .normal ∧ ∃ v, St K Ob w0 w' a' n ((d, v) :: L') Fs (Bx ++ Bs) ∧ ARep w' (owns Ob (Bx ++ Bs)) v u) [o] a w := by
  intro K Ob w0 w a Bx Bs L' Fs hs hL hB
  have e : owns (owns Ob Bx) Bs = owns Ob (Bx ++ Bs) := by
    funext b
    simp only [owns, List.map_append, List.mem_append]
    exact propext ⟨fun h => by rcases h with (h | h) | h <;> simp [h], fun h => by rcases h with h | h | h <;> simp [h]⟩
  have hnd := hs.nodup
  rw [List.map_append, List.nodup_append] at hnd
  have hst : St (fun b => b < w.heap.size ∧ b ∉ Bs.map (·.1)) (owns Ob Bx) w w a n L' Fs Bs := by
    refine ⟨hs.size, hs.defers, hs.slots, Nat.le_refl _, fun _ _ => rfl, fun g T cs hm => ?_, hnd.2.1, fun f hf => ?_, fun b hb => hb.1, fun b hb => ?_, fun b hb ho => ?_, rfl, rfl⟩
    · obtain ⟨_, h2, h3⟩ := hs.own g T cs (List.mem_append.2 (.inr hm))
      exact ⟨fun hk => hk.2 (List.mem_map.2 ⟨_, hm, rfl⟩), h2, h3⟩
    · rw [e]; exact hs.facts f hf
    · refine hs.owns_lt ?_
      simp only [owns, List.map_append, List.mem_append]
      exact hb.imp id .inl
    · rcases ho with ho | ho
      · exact hs.ownO b (by simp only [List.map_append, List.mem_append]; exact .inr hb) ho
      · exact hnd.2.2 b ho b hb rfl
  have key := h _ (owns Ob Bx) w w a Bs L' Fs hst (by rw [e]; exact hL) (by rw [e]; exact hB)
  refine wp_next hs.defers (R := fun a' w' => ∃ v, St _ (owns Ob Bx) w w' a' n ((d, v) :: L') Fs Bs ∧ ARep w' (owns (owns Ob Bx) Bs) v u) (fun a w ⟨v, h, _⟩ => h.defers) key fun a' w' ⟨v, h1, h2⟩ => wpList_nil ⟨rfl, v, ?_, by rw [← e]; exact h2⟩
  refine ⟨h1.size, h1.defers, h1.slots, Nat.le_trans hs.wsize h1.wsize, fun b hb => ?_, fun g T cs hm => ?_, hs.nodup, fun f hf => by rw [← e]; exact h1.facts f hf, hs.base, hs.obase, hs.ownO, h1.io.1.trans hs.io.1, h1.io.2.trans hs.io.2⟩
  · refine (h1.grow b ⟨Nat.lt_of_lt_of_le (hs.base b hb) hs.wsize, fun hm => ?_⟩).trans (hs.grow b hb)
    obtain ⟨⟨g, T, cs⟩, hg, rfl⟩ := List.mem_map.1 hm
    exact (hs.own g T cs (List.mem_append.2 (.inr hg))).1 hb
  · obtain ⟨h3, h4, h5⟩ := hs.own g T cs hm
    rcases List.mem_append.1 hm with hm | hm
    · refine ⟨h3, Nat.lt_of_lt_of_le h4 h1.wsize, (h1.grow g ⟨h4, fun hb => ?_⟩).trans h5⟩
      exact hnd.2.2 g (List.mem_map.2 ⟨_, hm, rfl⟩) g hb rfl
    · exact ⟨h3, (h1.own g T cs hm).2.1, (h1.own g T cs hm).2.2⟩
/-- the block behind a pointer -/
def gOf : Value → Nat
  | .pointer (some p) => p.block
  | _ => 0
/-- blocks that have been made so far: (operation, type, cells) -/
abbrev Made := List (Nat × Nat × List Value)
def mkB (As : Made) (p : Nat → Bool) (v : Nat → Value) : List Blk := (As.filter fun x => p x.1).map fun x => (gOf (v x.1), x.2.1, x.2.2)
def findA : Made → Nat → Option (Nat × List Value)
  | [], _ => none
  | x :: As, i => match Nat.beq x.1 i with
    | true => some x.2
    | false => findA As i
theorem mkB_other : ∀ {As : Made} {i : Nat} (p : Nat → Bool) (v : Nat → Value) (u : Value), findA As i = none → mkB As (fun j => j == i || p j) (fun j => if j = i then u else v j) = mkB As p v
  | [], _, _, _, _, _ => rfl
  | x :: As, i, p, v, u, h => by
    simp only [findA] at h
    split at h
    · cases h
    · rename_i e
      have ih := mkB_other (As := As) p v u h
      have hne : x.1 ≠ i := Nat.ne_of_beq_eq_false e
      unfold mkB at ih ⊢
      have e1 : (x.1 == i || p x.1) = p x.1 := by simp [hne]
      cases hp : p x.1
      · rw [List.filter_cons_of_neg (by simp [hne, hp]), List.filter_cons_of_neg (by simp [hp]), ih]
      · rw [List.filter_cons_of_pos (by simp [hp]), List.filter_cons_of_pos (by simp [hp]), List.map_cons, List.map_cons, ih]
        simp only [hne, if_false]
theorem mkB_new : ∀ {As : Made} {i T : Nat} {cs : List Value} (p : Nat → Bool) (v : Nat → Value) (g : Nat), (As.map (·.1)).Nodup → findA As i = some (T, cs) → p i = false →
    (mkB As (fun j => j == i || p j) (fun j => if j = i then .pointer (some ⟨g, 0, none⟩) else v j)).Perm ((g, T, cs) :: mkB As p v)
  | [], _, _, _, _, _, _, _, h, _ => by cases h
  | x :: As, i, T, cs, p, v, g, hn, h, hp => by
    rw [List.map_cons, List.nodup_cons] at hn
    simp only [findA] at h
    split at h
    · rename_i e
      have e : x.1 = i := Nat.eq_of_beq_eq_true e
      injection h with h
      have hnone : findA As i = none := by
        have : ∀ (As : Made), i ∉ As.map (·.1) → findA As i = none := by
          intro As
          induction As with
          | nil => intro _; rfl
          | cons y As ih =>
            intro hm
            simp only [List.map_cons, List.mem_cons, not_or] at hm
            simp only [findA]
            have : Nat.beq y.1 i = false := by
              cases hb : Nat.beq y.1 i
              · rfl
              · exact absurd (Nat.eq_of_beq_eq_true hb).symm hm.1
            rw [this]; exact ih hm.2
        exact this As (by rw [← e]; exact hn.1)
      have ih := mkB_other (As := As) p v (.pointer (some ⟨g, 0, none⟩)) hnone
      unfold mkB at ih ⊢
      rw [List.filter_cons_of_pos (by simp [e]), List.filter_cons_of_neg (by rw [e, hp]; simp), List.map_cons, ih]
      simp only [e, if_true, h, gOf]
      exact .refl _
    · rename_i e
      have hne : x.1 ≠ i := Nat.ne_of_beq_eq_false e
      have ih := mkB_new (As := As) p v g hn.2 h hp
      unfold mkB at ih ⊢
      cases hpx : p x.1
      · rw [List.filter_cons_of_neg (by simp [hne, hpx]), List.filter_cons_of_neg (by simp [hpx])]; exact ih
      · rw [List.filter_cons_of_pos (by simp [hpx]), List.filter_cons_of_pos (by simp [hpx]), List.map_cons, List.map_cons]
        simp only [hne, if_false]
        exact (ih.cons _).trans (List.Perm.swap ..)
/-- an operation that makes a block -/
def AL (P : Program) (ops : Array Oper) (n : Nat) (o : Oper) (d T : Nat) (cs : List Value) : Prop :=
  ∀ (K Ob : Nat → Prop) (w0 w : World) (a : Act) (Bs : List Blk) (L' : List (Nat × Value)) (Fs : List Fact), St K Ob w0 w a n L' Fs Bs →
    wpList P ops (fun e a' w' => e = .normal ∧ ∃ g, St K Ob w0 w' a' n ((d, .pointer (some ⟨g, 0, none⟩)) :: L') Fs ((g, T, cs) :: Bs)) [o] a w
theorem al_alloc {T : TypeId} {z : Value} (hz : ∀ w, (zeroValue T).run P w = .ok z w) (hd : Nat.blt d n = true) : AL P ops n { dst := some d, op := .alloc T, type := ty, pos := pos, after := after, guard := none } d T z.cells.toList :=
  fun K Ob w0 w a Bs L' Fs h => st_alloc h hz hd fun g w' a' h' => wpList_nil ⟨rfl, g, h'⟩
def DOp (P : Program) (ops : Array Oper) (n : Nat) (L : Sg) (B : List OB) (As : Made) (i d : Nat) (u : AV) (dep : Sg) (o : Oper) : Prop :=
  match findA As i with
  | some (T, cs) => AL P ops n o d T cs
  | none => AP P ops n o d u (dep ++ L) B
def DOps (P : Program) (ops : Array Oper) (n : Nat) (L : Sg) (B : List OB) (As : Made) (D : List Nat) (us : List AV) : Nat → List (List (Nat × AV)) → List Oper → Prop
  | i, dep :: deps, o :: os => DOp P ops n L B As i (D.getD i 0) (us.getD i .un) dep o ∧ DOps P ops n L B As D us (i + 1) deps os
  | _, _, _ => True
/-- what is told of a value: it reads so; or it points to a block -/
def dF (As : Made) (i : Nat) (u : AV) (v : Value) : Fact := match findA As i with
  | some _ => ⟨fun _ _ => ∃ g, v = .pointer (some ⟨g, 0, none⟩), fun _ h => h⟩
  | none => avF u v
def dFs (As : Made) : Nat → List AV → List (Value → Fact)
  | _, [] => []
  | i, u :: us => dF As i u :: dFs As (i + 1) us
theorem dFs_get (As : Made) : ∀ {us : List AV} {k i : Nat} {u : AV}, us[i]? = some u → (dFs As k us)[i]? = some (dF As (k + i) u)
  | [], _, _, _, h => by simp at h
  | x :: us, k, 0, u, h => by simp at h; subst h; rfl
  | x :: us, k, i + 1, u, h => by
    have := dFs_get As (us := us) (k := k + 1) (i := i) (by simpa using h)
    rw [show k + (i + 1) = k + 1 + i from by omega]
    simpa [dFs] using this
/-- the blocks that were made, told -/
def made (As : Made) : List (List LV) → (Nat → Nat) → Option (List OB)
  | [], _ => match As with
    | [] => some []
    | _ => none
  | zs :: r, g => match As with
    | [] => none
    | x :: As => match made As r g with
      | some B => some (.blk (g x.1) x.2.1 zs :: B)
      | none => none
def zlAll : Made → List (List LV) → Prop
  | [], [] => True
  | x :: As, zs :: r => zl.zls x.2.2 = some zs ∧ zlAll As r
  | _, _ => False
theorem made_rep {w : World} {O : Nat → Prop} {g : Nat → Nat} : ∀ {As : Made} {zss : List (List LV)} {B1 : List OB}, zlAll As zss → made As zss g = some B1 → ∀ {B : List OB} {Bs : List Blk}, BsRep w O B Bs → BsRep w O (B1 ++ B) (As.map (fun x => (g x.1, x.2.1, x.2.2)) ++ Bs)
  | [], [], B1, _, h, B, Bs, hB => by simp [made] at h; subst h; exact hB
  | x :: As, zs :: r, B1, hz, h, B, Bs, hB => by
    simp only [made] at h
    split at h
    · rename_i q hq
      injection h with h; subst h
      exact ⟨[(g x.1, x.2.1, x.2.2)], _, rfl, ⟨_, rfl, zls_of hz.1⟩, made_rep hz.2 hq hB⟩
    · cases h
  | [], _ :: _, _, h, _, _, _, _ => h.elim
  | _ :: _, [], _, h, _, _, _, _ => h.elim
/-- the slots behind: what was reckoned, and pointers to what was made -/
def slotsA (As : Made) (g : Nat → Nat) : Nat → List Nat → List AV → Sg → Option Sg
  | _, [], [], L => some L
  | i, d :: D, u :: us, L => match slotsA As g (i + 1) D us L with
    | some r => match findA As i with
      | some _ => some ((d, .one (.ow (g i) 0)) :: r)
      | none => some ((d, u) :: r)
    | none => none
  | _, _, _, _ => none
theorem lk_slotsA {w : World} {O : Nat → Prop} {As : Made} {g : Nat → Nat} {v : Nat → Value} {L : Sg} {L2 : List (Nat × Value)} (hL : ∀ t x, lk L t = some x → ∃ y, look L2 t = some y ∧ ARep w O y x) : ∀ {D : List Nat} {us : List AV} {i : Nat} {L3 : Sg}, slotsA As g i D us L = some L3 →
    (∀ j, j < D.length → findA As (i + j) = none → ARep w O (v (i + j)) (us.getD j .un)) → (∀ j, j < D.length → (findA As (i + j)).isSome = true → v (i + j) = .pointer (some ⟨g (i + j), 0, none⟩)) →
    ∀ t x, lk L3 t = some x → ∃ y, look ((List.range' i D.length).map (fun j => (D.getD (j - i) 0, v j)) ++ L2) t = some y ∧ ARep w O y x
  | [], [], i, L3, h, _, _, t, x, hx => by simp [slotsA] at h; subst h; simpa using hL t x hx
  | d :: D, u :: us, i, L3, h, h1, h2, t, x, hx => by
    simp only [slotsA] at h
    split at h
    · rename_i r hr
      have ih := lk_slotsA hL hr (fun j hj hf => by
        have := h1 (j + 1) (by simp; omega) (by rw [show i + (j + 1) = i + 1 + j from by omega]; exact hf)
        rw [show i + (j + 1) = i + 1 + j from by omega] at this
        simpa using this) (fun j hj hf => by
        have := h2 (j + 1) (by simp; omega) (by rw [show i + (j + 1) = i + 1 + j from by omega]; exact hf)
        rwa [show i + (j + 1) = i + 1 + j from by omega] at this)
      have hrange : (List.range' i (d :: D).length).map (fun j => ((d :: D).getD (j - i) 0, v j)) = (d, v i) :: (List.range' (i + 1) D.length).map (fun j => (D.getD (j - (i + 1)) 0, v j)) := by
        rw [List.length_cons, List.range'_succ, List.map_cons, Nat.sub_self]
        congr 1
        refine List.map_congr_left fun j hj => ?_
        have := List.mem_range'_1.1 hj
        rw [show j - i = (j - (i + 1)) + 1 from by omega]
        simp
      rw [hrange]
      have key : ∀ u', (ARep w O (v i) u') → lk ((d, u') :: r) t = some x → ∃ y, look ((d, v i) :: (List.range' (i + 1) D.length).map (fun j => (D.getD (j - (i + 1)) 0, v j)) ++ L2) t = some y ∧ ARep w O y x := by
        intro u' hu hx
        simp only [lk] at hx
        simp only [List.cons_append, look]
        cases e : Nat.beq t d <;> rw [e] at hx
        · exact ih t x hx
        · injection hx with hx; subst hx; exact ⟨_, rfl, hu⟩
      split at h
      · rename_i q hq
        injection h with h; subst h
        have := h2 0 (by simp) (by rw [Nat.add_zero, hq]; rfl)
        rw [Nat.add_zero] at this
        exact key (.one (.ow (g i) 0)) this hx
      · rename_i hq
        injection h with h; subst h
        have := h1 0 (by simp) (by rw [Nat.add_zero]; exact hq)
        rw [Nat.add_zero] at this
        exact key _ (by simpa using this) hx
    · cases h
  | [], _ :: _, _, _, h, _, _, _, _, _ => by simp [slotsA] at h
  | _ :: _, [], _, _, h, _, _, _, _, _ => by simp [slotsA] at h
theorem ac_drawA {id : Nat} {l : List Oper} (hm : P.follows .mixedOrders = true) (m : Nat) (D : List Nat) (deps : List (List Nat)) (us : List AV) (As : Made) (zss : List (List LV)) (hchk : chkDraw l m (D.map some) deps = true)
    (hDm : (Nat.beq D.length m && Nat.beq us.length m && deps.all fun js => js.all fun j => Nat.blt j m && (findA As j).isNone) = true) (hAs : (As.all fun x => Nat.blt x.1 m) = true) (hnd : (As.map (·.1)).Nodup) (hzl : zlAll As zss) (hnone : (D.all fun t => (lk L t).isNone) = true)
    (hops : DOps P l.toArray n L B As D us 0 (depsOf D us deps) (l.take m))
    (k : ∀ g : Nat → Nat, ∃ L2 B1, slotsA As g 0 D us L = some L2 ∧ made As zss g = some B1 ∧ AW P l.toArray n (l.drop m) (fun L B => Q .normal L B) L2 (B1 ++ B)) : AC P n (.region id l.toArray true) Q L B := by
  rintro K Ob w0 w a ⟨L', Bs, h, hL, hB⟩
  simp only [Bool.and_eq_true, List.all_eq_true] at hDm hnone hAs
  obtain ⟨⟨hD, hU⟩, hdl⟩ := hDm
  have hD := Nat.eq_of_beq_eq_true hD
  have hU := Nat.eq_of_beq_eq_true hU
  have hdl1 : ∀ js ∈ deps, ∀ j ∈ js, j < m := fun js hj j hjj => by have := (hdl js hj j hjj).1; rwa [Nat.blt_eq] at this
  have hdl2 : ∀ js ∈ deps, ∀ j ∈ js, findA As j = none := fun js hj j hjj => by have := (hdl js hj j hjj).2; rwa [Option.isNone_iff_eq_none] at this
  obtain ⟨L3, h1, h2, h3⟩ := only L hL
  have hst : St K Ob w0 w a n L3 [] Bs := { h with slots := fun t v hv => h.slots t v (h2 t v hv) }
  have hst2 := hst.add (f := SF L L3 B Bs [] []) ⟨h3, hB, trivial⟩
  have hc := chk_of hchk
  have hS : ∀ i, (hi : i < m) → (dFs As 0 us).getD i noF = dF As i (us[i]'(by rw [hU]; exact hi)) := fun i hi => by
    have := dFs_get As (us := us) (k := 0) (i := i) (List.getElem?_eq_getElem (by rw [hU]; exact hi))
    rw [List.getD_eq_getElem?_getD, this, Nat.zero_add]; rfl
  have hus : ∀ i, (hi : i < m) → us.getD i .un = us[i]'(by rw [hU]; exact hi) := fun i hi => by
    rw [List.getD_eq_getElem?_getD, List.getElem?_eq_getElem (by rw [hU]; exact hi)]; rfl
  have hget : ∀ (os : List Oper) (ds : List (List (Nat × AV))) (k : Nat), DOps P l.toArray n L B As D us k ds os → ∀ (i : Nat) dep o, ds[i]? = some dep → os[i]? = some o → DOp P l.toArray n L B As (k + i) (D.getD (k + i) 0) (us.getD (k + i) .un) dep o := by
    intro os
    induction os with
    | nil => intro ds k _ i dep o _ ho; simp at ho
    | cons o os ih =>
      intro ds k hap i dep o' hd ho
      rcases ds with _ | ⟨dp, ds⟩
      · simp at hd
      · cases i with
        | zero => simp at hd ho; subst hd ho; exact hap.1
        | succ i =>
          have := ih ds (k + 1) hap.2 i dep o' (by simpa using hd) (by simpa using ho)
          rw [show k + (i + 1) = k + 1 + i from by omega]
          exact this
  have hdraw1 : ∀ (i : Nat) (dj : List Nat) (o : Oper), deps[i]? = some dj → l[i]? = some o → i < m → DrawOp P l.toArray K Ob w0 n L3 [SF L L3 B Bs [] []] (fun p v => mkB As p v ++ Bs) (D.map some) (dFs As 0 us) i dj o := by
    intro i dj o hd ho hi p hpi _ v Fx a' w' hs
    have hop := hget (l.take m) _ 0 hops i _ o (depsOf_get hd) (by rw [List.getElem?_take, if_pos hi]; exact ho)
    rw [Nat.zero_add] at hop
    have hjm := hdl1 dj (List.mem_of_getElem? hd)
    have hjn := hdl2 dj (List.mem_of_getElem? hd)
    rw [dL_some D v dj fun j hj => by rw [hD]; exact hjm j hj] at hs
    have hfacts : ∀ j ∈ dj, ARep w' (owns Ob (mkB As p v ++ Bs)) (v j) (us.getD j .un) := fun j hj => by
      have := hs.facts ((dFs As 0 us).getD j noF (v j)) (List.mem_append.2 (.inl (List.mem_map.2 ⟨j, hj, rfl⟩)))
      rw [hS j (hjm j hj)] at this
      unfold dF at this
      rw [hjn j hj] at this
      rw [hus j (hjm j hj)]
      exact this
    obtain ⟨h6, h7, _⟩ : (SF L L3 B Bs [] []).holds w' (owns Ob (mkB As p v ++ Bs)) := hs.facts _ (List.mem_append.2 (.inr (by simp)))
    have hdk := dd_some D i (by rw [hD]; exact hi)
    unfold DOp at hop
    cases hf : findA As i with
    | none =>
      rw [hf] at hop
      have hw := AP.frame hop K Ob w0 w' a' (mkB As p v) Bs _ _ hs (lk_dep h6 hfacts) h7
      refine wp_next hs.defers (fun _ _ ⟨_, hh, _⟩ => hh.defers) hw fun a2 w2 hh => ?_
      obtain ⟨x, h8, h9⟩ := hh
      refine wpList_nil ⟨rfl, x, ?_⟩
      simp only [mkB_other (As := As) p v x hf]
      rw [if_pos hdk.2, hdk.1, hS i hi]
      rw [hus i hi] at h9
      refine h8.drawEnd (by simp [look]) ?_
      unfold dF; rw [hf]; exact h9
    | some q =>
      obtain ⟨T, cs⟩ := q
      rw [hf] at hop
      have hw := hop K Ob w0 w' a' (mkB As p v ++ Bs) _ _ hs
      refine wp_next hs.defers (fun _ _ ⟨_, hh⟩ => hh.defers) hw fun a2 w2 hh => ?_
      obtain ⟨g, h8⟩ := hh
      refine wpList_nil ⟨rfl, .pointer (some ⟨g, 0, none⟩), ?_⟩
      have hp := mkB_new (As := As) p v g hnd hf hpi
      rw [if_pos hdk.2, hdk.1, hS i hi]
      have h9 := h8.perm (Bs' := mkB As (fun j => j == i || p j) (fun j => if j = i then .pointer (some ⟨g, 0, none⟩) else v j) ++ Bs) (hp.append_right Bs)
      refine h9.drawEnd (by simp [look]) ?_
      unfold dF; rw [hf]; exact ⟨g, rfl⟩
  have hdrawops : ∀ (js : List (List Nat)) (os : List Oper) (k : Nat), (∀ i dj o, js[i]? = some dj → os[i]? = some o → DrawOp P l.toArray K Ob w0 n L3 [SF L L3 B Bs [] []] (fun p v => mkB As p v ++ Bs) (D.map some) (dFs As 0 us) (k + i) dj o) →
      DrawOps P l.toArray K Ob w0 n L3 [SF L L3 B Bs [] []] (fun p v => mkB As p v ++ Bs) (D.map some) (dFs As 0 us) k js os := by
    intro js
    induction js with
    | nil => intro os k _; cases os <;> trivial
    | cons dj js ih =>
      intro os k hall
      rcases os with _ | ⟨o, os⟩
      · trivial
      · refine ⟨by have := hall 0 dj o rfl rfl; rwa [Nat.add_zero] at this, ih os (k + 1) fun i dj' o' hd ho => ?_⟩
        have := hall (i + 1) dj' o' (by simpa using hd) (by simpa using ho)
        rwa [show k + (i + 1) = k + 1 + i from by omega] at this
  refine draw_ hm m (D.map some) deps (dFs As 0 us) (fun p v => mkB As p v ++ Bs) hchk hst2 (fun v => by simp [mkB]) ?_ (hdrawops deps l 0 fun i dj o hd ho => by
    rw [Nat.zero_add]
    exact hdraw1 i dj o hd ho (by have := (List.getElem?_eq_some_iff.1 hd).1; rw [hc.deplen] at this; exact this)) fun p hp v a' w' hs => ?_
  · rw [List.all_eq_true]
    intro j hj
    have hjm : j < m := List.mem_range.1 hj
    rw [(dd_some D j (by rw [hD]; exact hjm)).1]
    have hmem : D.getD j 0 ∈ D := by rw [List.getD_eq_getElem?_getD, List.getElem?_eq_getElem (by rw [hD]; exact hjm)]; exact List.getElem_mem _
    have := hnone _ hmem
    rw [Option.isNone_iff_eq_none] at this
    rw [h1 _ this]; simp
  · rw [dL_some D v _ fun j hj => by rw [hD]; exact List.mem_range.1 hj] at hs
    let g : Nat → Nat := fun j => gOf (v j)
    have hall : mkB As p v = As.map fun x => (g x.1, x.2.1, x.2.2) := by
      unfold mkB
      rw [List.filter_eq_self.2 fun x hx => hp x.1 (by have := hAs x hx; rwa [Nat.blt_eq] at this)]
    have hf1 : ∀ j, j < D.length → findA As (0 + j) = none → ARep w' (owns Ob (mkB As p v ++ Bs)) (v (0 + j)) (us.getD j .un) := fun j hj hf => by
      rw [Nat.zero_add] at hf ⊢
      have hjm : j < m := by omega
      have := hs.facts ((dFs As 0 us).getD j noF (v j)) (List.mem_append.2 (.inl (List.mem_map.2 ⟨j, List.mem_range.2 hjm, rfl⟩)))
      rw [hS j hjm] at this
      unfold dF at this
      rw [hf] at this
      rw [hus j hjm]
      exact this
    have hf2 : ∀ j, j < D.length → (findA As (0 + j)).isSome = true → v (0 + j) = .pointer (some ⟨g (0 + j), 0, none⟩) := fun j hj hf => by
      rw [Nat.zero_add] at hf ⊢
      have hjm : j < m := by omega
      have := hs.facts ((dFs As 0 us).getD j noF (v j)) (List.mem_append.2 (.inl (List.mem_map.2 ⟨j, List.mem_range.2 hjm, rfl⟩)))
      rw [hS j hjm] at this
      unfold dF at this
      cases hq : findA As j with
      | none => rw [hq] at hf; cases hf
      | some q =>
        rw [hq] at this
        obtain ⟨g', hg⟩ := this
        show v j = .pointer (some ⟨gOf (v j), 0, none⟩)
        rw [hg]; rfl
    obtain ⟨h6, h7, _⟩ : (SF L L3 B Bs [] []).holds w' (owns Ob (mkB As p v ++ Bs)) := hs.facts _ (List.mem_append.2 (.inr (by simp)))
    obtain ⟨L2, B1, hk1, hk2, hk3⟩ := k g
    have hlk := lk_slotsA h6 hk1 hf1 hf2
    have hr : List.range' 0 D.length = List.range m := by rw [List.range_eq_range', hD]
    rw [hr] at hlk
    simp only [Nat.sub_zero] at hlk
    have hB2 := made_rep (w := w') (O := owns Ob (mkB As p v ++ Bs)) hzl hk2 h7
    rw [← hall] at hB2
    exact hk3 K Ob w0 w' a' _ ⟨_, mkB As p v ++ Bs, hs.noFacts, hlk, hB2⟩ fun a2 w2 h => h
/-- a literal that is kept -/
theorem a_lit {T E size len : Nat} {z : Value} {zs r : List LV} {ps : List (Nat × Operand)} {us : List (Nat × AV)} {ls : List (List LV)} (hu : ∀ w, (underlying T).run P w = .ok (.slice E) w) (hs : ∀ w, (Go.sizeOf E).run P w = .ok size w) (hz : ∀ w, (zeroValue E).run P w = .ok z w)
    (hz1 : zl z = some zs) (hz2 : Nat.beq zs.length size = true) (hsz : Nat.blt 0 size = true) (hl : Nat.ble (len * size) 16777216 = true) (hl0 : Nat.blt 0 len = true) (hx : evAp L ps = some us) (hf : fillL (fun i => some (i * size, size)) (zrep len zs) us = some r)
    (hc : chunkL size len r = some ls) (hfr : freeLs ls = true) (hd : Nat.blt d n = true) (k : ∀ r, AW P ops n rest N ((d, .one (.orow r size 0 len)) :: L) (.row r E size ls :: B)) :
    AW P ops n ({ dst := some d, op := .buildSlice T len ps.toArray, type := ty, pos := pos, after := after, guard := none } :: rest) N L B := by
  rintro K Ob w0 w a Q ⟨L', Bs, h, hL, hB⟩ hQ
  have hz2 := Nat.eq_of_beq_eq_true hz2
  have hsz : 0 < size := by rwa [Nat.blt_eq] at hsz
  have hl := Nat.le_of_ble_eq_true hl
  have hl0 : 0 < len := by rwa [Nat.blt_eq] at hl0
  obtain ⟨vs, h1, h2, h3⟩ := evp_of hL hx
  have hzr := zl_of (w := w) (O := owns Ob Bs) hz1
  have hzl := hzr.len
  obtain ⟨cells, h4, h5⟩ := fillL_of (w := w) (O := owns Ob Bs) hf (zrep_of hzr len) h2 h3
  have h6 := fill_of h4
  obtain ⟨vss, rfl, h7, h8, h9⟩ := chunk_of h5 hc
  have hadd := h.add (f := ⟨fun w O => (∀ t x, lk L t = some x → ∃ v, look L' t = some v ∧ ARep w O v x) ∧ BsRep w O B Bs ∧ RReps w O vss ls, fun hle h => ⟨keep_of hle h.1, h.2.1.keep hle, h.2.2.keep hle⟩⟩) ⟨hL, hB, h7⟩
  refine st_buildSlice hadd h1 (fun w => buildSlice_run (size := size) (zs := z.cells.toList) hu hs hz (by simp) (by rw [hzl]; exact hz2) hsz hl hl0 h6 w) hd fun g w' a' h' => ?_
  obtain ⟨h10, h11, h12⟩ := h'.fact 0 rfl
  have hll : len ≤ 16777216 := Nat.le_trans (Nat.le_mul_of_pos_right len hsz) hl
  have h63 : (2 : Nat) ^ 63 = 9223372036854775808 := by decide
  refine k (some (g, len)) _ _ _ _ _ _ (SA.of (Bo := [_]) h'.noFacts (put_of h10 ?_) ?_ h11) hQ
  · exact ⟨by omega, 0, rfl, fun _ => by simp⟩
  · exact ⟨hsz, h8, freeLs_of hfr, vss, [], h12, by simp, by rw [List.append_nil, flat_len (sz := size) (h12.all h8), h12.len, h9], by omega, by omega⟩
end Orr
namespace Orr
open Go
variable {P : Program} {n : Nat} {L : Sg} {B : List OB} {Q : Exit → Sg → List OB → Prop} {c : Code}
theorem ac_ownNil (ts : List Nat) (E sz : Nat) {L2 : Sg} (hsz : Nat.blt 0 sz = true) (hts : allAre L (.one .nils) ts) (hL2 : putL ts (.one (.orow none sz 0 0)) L = some L2) (k : AC P n c Q L2 (.row none E sz [] :: B)) : AC P n c Q L B := by
  rintro K Ob w0 w a ⟨L', Bs, h, hL, hB⟩
  rw [Nat.blt_eq] at hsz
  refine k _ _ _ _ _ ⟨L', Bs, h, fun t u hu => ?_, ⟨[], Bs, rfl, ⟨hsz, rfl, rfl⟩, hB⟩⟩
  rcases lk_putL hL2 t u hu with ⟨hm, rfl⟩ | hu
  · obtain ⟨v, hv, hr⟩ := hL t _ (allAre_get hts t hm)
    have hr : LRep w _ v .nils := hr
    cases hr
    exact ⟨_, hv, rfl, rfl, rfl⟩
  · exact hL t u hu
theorem ac_pub (i : Nat) (ts : List Nat) {r : Option (Nat × Nat)} {E sz len : Nat} {ls : List (List LV)} {B' : List OB} {L2 : Sg} (hi : frontB B i = some (.row r E sz ls, B')) (hts : allAre L (.one (.orow r sz 0 len)) ts) (hlen : len = ls.length) (h47 : ls.length < 140737488355328)
    (hL2 : putL ts (.one (.row ls)) L = some L2) (k : AC P n c Q L2 B') : AC P n c Q L B := by
  intro K Ob w0 w a hs
  subst hlen
  obtain ⟨L', Bo, Bs, h1, h2, h3, h4⟩ := hs.front hi
  have hle : Le w (owns Ob (Bo ++ Bs)) w (owns Ob Bs) := ⟨Nat.le_refl _, fun _ _ _ => rfl, fun b _ ho => ho.imp id fun hm => by simp only [List.map_append, List.mem_append]; exact .inr hm⟩
  refine k _ _ _ _ _ ⟨L', Bs, h1.tailB, fun t u hu => ?_, h4.keep hle⟩
  rcases lk_putL hL2 t u hu with ⟨hm, rfl⟩ | hu
  · obtain ⟨v, hv, hr⟩ := h2 t _ (allAre_get hts t hm)
    have := row_rep h1 h3 hr rfl (by omega) h47
    rw [List.drop_zero, List.take_length] at this
    exact ⟨v, hv, this⟩
  · exact keep_of hle h2 t u hu
theorem ac_blk (i : Nat) {g : Nat} {T : TypeId} {xs zs ys : List LV} {B' : List OB} (hi : frontB B i = some (.blk g T xs, B')) (hun : unNilL xs = some zs) (he : zs = ys) (k : AC P n c Q L (.blk g T ys :: B')) : AC P n c Q L B := by
  intro K Ob w0 w a hs
  subst he
  obtain ⟨L', Bo, Bs, h1, h2, ⟨cs, rfl, h3⟩, h4⟩ := hs.front hi
  exact k _ _ _ _ _ (SA.of h1 h2 ⟨cs, rfl, unNilL_of hun h3⟩ h4)
theorem ac_rowEq (i : Nat) {r : Option (Nat × Nat)} {E sz : Nat} {ls ls' : List (List LV)} {B' : List OB} (hi : frontB B i = some (.row r E sz ls, B')) (he : ls = ls') (k : AC P n c Q L (.row r E sz ls' :: B')) : AC P n c Q L B := by
  subst he; exact ac_front i hi k
end Orr
namespace Orr
open Go
variable {P : Program} {ops : Array Oper} {n : Nat} {rest : List Oper} {N : Sg → List OB → Prop} {L : Sg} {B : List OB} {Q : Exit → Sg → List OB → Prop} {c : Code}
theorem SA.slotEq {K Ob : Nat → Prop} {w0 w : World} {a : Act} (h : SA K Ob w0 w a n L B) {t : Nat} {x y : AV} (ht : lk L t = some x) (he : x = y) : SA K Ob w0 w a n ((t, y) :: L) B := by
  subst he
  obtain ⟨L', Bs, h1, h2, h3⟩ := h
  refine ⟨L', Bs, h1, fun s u hu => ?_, h3⟩
  simp only [lk] at hu
  cases e : Nat.beq s t <;> rw [e] at hu
  · exact h2 s u hu
  · injection hu with hu; subst hu; rw [Nat.eq_of_beq_eq_true e]; exact h2 t _ ht
theorem aw_slotEq (t : Nat) {x y : AV} (ht : lk L t = some x) (he : x = y) (k : AW P ops n rest N ((t, y) :: L) B) : AW P ops n rest N L B := fun _ _ _ _ _ _ hs hQ => k _ _ _ _ _ _ (hs.slotEq ht he) hQ
theorem ac_slotEq (t : Nat) {x y : AV} (ht : lk L t = some x) (he : x = y) (k : AC P n c Q ((t, y) :: L) B) : AC P n c Q L B := fun _ _ _ _ _ hs => k _ _ _ _ _ (hs.slotEq ht he)
end Orr
