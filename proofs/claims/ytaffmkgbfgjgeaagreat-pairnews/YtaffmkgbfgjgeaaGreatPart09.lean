/- The closest pair, told in data. The law PairNews, told in data. What an argument reads as, told in plain data, where it is not looked into. The last step of a law of points and a number: the arguments as they lie in memory are told in plain data; behind the call nothing of the old memory has changed. -/
import Derived.Test.YtaffmkgbfgjgeaaGreatPart08
import Derived.Deep.Slices
import Derived.ProofKit
import Derived.OpenShut
import Derived.WideKeyArgs
import Derived.SizedLaws
set_option linter.all false

namespace Orr
open Go Go.Proofs
theorem pb_sq {p : List Int} (h : p.length ≤ 16 ∧ Bd 2097153 p) : (pmul p p).length < 274877906944 ∧ Bd 4294967295 (pmul p p) := by
  have := len_pmul p p
  exact ⟨by omega, bd_mono (bd_pmul (u := 5) h.2 h.2 (by omega)) (by omega)⟩

theorem d_pred_apart {a b : Crv} (ha : Nml a) (hb : Nml b) (ca : Cb a) (cb : Cb b) : Does Tryz.prog 173 [.agg [pl a.x, pl a.y, sg a.d, mg a.d], .agg [pl b.x, pl b.y, sg b.d, mg b.d]] (.one (pl (papart a b))) := by
  refine does_ (n := 20) Tryz.func173 rfl Tryz.ntmps173 rfl ?_
  refine ac_seq ?_
  refine ac_reg ?_
  refine w_ (p_boxS rfl rfl rfl rfl) ?_
  refine w_ (p_boxS rfl rfl rfl rfl) ?_
  refine w_ (p_assign rfl rfl) ?_
  refine aw_nil ?_
  refine ac_seq ?_
  refine ac_draw mixed_ 5 [7, 8, 9, 10, 11] [[], [], [0, 1], [], []] [.agg [pl a.x, pl a.y, sg a.d, mg a.d], .agg [pl b.x, pl b.y, sg b.d, mg b.d], .one (pl (pright a b)), .agg [pl a.x, pl a.y, sg a.d, mg a.d], .agg [pl b.x, pl b.y, sg b.d, mg b.d]] rfl rfl rfl ⟨p_loadSh Tryz.isAgg74 Tryz.sizeOf74 rfl rfl rfl rfl, p_loadSh Tryz.isAgg74 Tryz.sizeOf74 rfl rfl rfl rfl, p_call Tryz.func159 rfl rfl rfl rfl (d_pred_Right (ha) (hb) (ca) (cb)) rfl, p_loadSh Tryz.isAgg74 Tryz.sizeOf74 rfl rfl rfl rfl, p_loadSh Tryz.isAgg74 Tryz.sizeOf74 rfl rfl rfl rfl, trivial⟩ rfl ?_
  refine w_ (p_call Tryz.func160 rfl rfl rfl rfl (d_pred_Above (ha) (hb) (ca) (cb)) rfl) ?_
  refine w_ (p_assign rfl rfl) ?_
  refine w_ (p_assign rfl rfl) ?_
  refine aw_nil ?_
  refine ac_seq ?_
  refine ac_reg ?_
  refine w_ (p_move rfl rfl) ?_
  refine w_ (p_move rfl rfl) ?_
  refine w_ (p_call Tryz.func237 rfl rfl rfl rfl (d_poly_Mul ((pb_right ca cb).1.t) ((pb_right ca cb).1.t) (Nat.lt_of_le_of_lt (pb_right ca cb).2.1 (by decide)) (Nat.lt_of_le_of_lt (pb_right ca cb).2.1 (by decide)) ((pb_right ca cb).2.2) ((pb_right ca cb).2.2) (by decide)) rfl) ?_
  refine w_ (p_move rfl rfl) ?_
  refine w_ (p_move rfl rfl) ?_
  refine w_ (p_call Tryz.func237 rfl rfl rfl rfl (d_poly_Mul ((pb_above ca cb).1.t) ((pb_above ca cb).1.t) (Nat.lt_of_le_of_lt (pb_above ca cb).2.1 (by decide)) (Nat.lt_of_le_of_lt (pb_above ca cb).2.1 (by decide)) ((pb_above ca cb).2.2) ((pb_above ca cb).2.2) (by decide)) rfl) ?_
  refine w_ (p_call Tryz.func236 rfl rfl rfl rfl (d_poly_Add ((pb_sq (pb_right ca cb).2).1) ((pb_sq (pb_above ca cb).2).1) ((pb_sq (pb_right ca cb).2).2) ((pb_sq (pb_above ca cb).2).2)) rfl) ?_
  refine w_ (p_assign rfl rfl) ?_
  refine aw_nil ?_
  refine ac_ret ?_
  exact retB_1 Tryz.results173 (rv_tmp rfl rfl) (rfl)

set_option maxRecDepth 20000 in
theorem d_pred_Farther {a b c d : Crv} (ha : Nml a) (hb : Nml b) (hc : Nml c) (hd : Nml d) (ca : Cb a) (cb : Cb b) (cc : Cb c) (cd : Cb d) : Does Tryz.prog 100 [.agg [pl a.x, pl a.y, sg a.d, mg a.d], .agg [pl b.x, pl b.y, sg b.d, mg b.d], .agg [pl c.x, pl c.y, sg c.d, mg c.d], .agg [pl d.x, pl d.y, sg d.d, mg d.d]] (.one (pl (pfarther a b c d))) := by
  refine does_ (n := 40) Tryz.func100 rfl Tryz.ntmps100 rfl ?_
  refine ac_seq ?_
  refine ac_reg ?_
  refine w_ (p_boxS rfl rfl rfl rfl) ?_
  refine w_ (p_boxS rfl rfl rfl rfl) ?_
  refine w_ (p_boxS rfl rfl rfl rfl) ?_
  refine w_ (p_boxS rfl rfl rfl rfl) ?_
  refine w_ (p_assign rfl rfl) ?_
  refine aw_nil ?_
  refine ac_seq ?_
  refine ac_drawA mixed_ 16 [11, 12, 13, 14, 15, 16, 17, 18, 19, 20, 21, 22, 23, 24, 9, 10] [[], [0], [1], [], [3], [4], [2, 5], [], [7], [8], [], [10], [11], [9, 12], [], []] [.agg [pl a.x, pl a.y, sg a.d, mg a.d], .agg [pl a.x, pl a.y, sg a.d, mg a.d], .agg [sg a.d, mg a.d], .agg [pl b.x, pl b.y, sg b.d, mg b.d], .agg [pl b.x, pl b.y, sg b.d, mg b.d], .agg [sg b.d, mg b.d], .agg [sg (a.d * b.d), mg (a.d * b.d)], .agg [pl c.x, pl c.y, sg c.d, mg c.d], .agg [pl c.x, pl c.y, sg c.d, mg c.d], .agg [sg c.d, mg c.d], .agg [pl d.x, pl d.y, sg d.d, mg d.d], .agg [pl d.x, pl d.y, sg d.d, mg d.d], .agg [sg d.d, mg d.d], .agg [sg (c.d * d.d), mg (c.d * d.d)], .un, .un] [(14, 55, [.bool false, .slice none 0 0]), (15, 55, [.bool false, .slice none 0 0])] [[.bool false, .nils], [.bool false, .nils]] rfl rfl rfl (by decide) ⟨rfl, rfl, trivial⟩ rfl ⟨p_loadSh Tryz.isAgg74 Tryz.sizeOf74 rfl rfl rfl rfl, p_call Tryz.func170 rfl rfl rfl rfl (d_pred_norm (ha) (ca.mono (by omega) (by omega))) rfl, p_field (fv_74_2) rfl rfl rfl rfl, p_loadSh Tryz.isAgg74 Tryz.sizeOf74 rfl rfl rfl rfl, p_call Tryz.func170 rfl rfl rfl rfl (d_pred_norm (hb) (cb.mono (by omega) (by omega))) rfl, p_field (fv_74_2) rfl rfl rfl rfl, p_call Tryz.func169 rfl rfl rfl rfl (d_whole_Mul (isInt_n _) (isInt_n _) (Nat.le_trans ca.d (by omega)) (Nat.le_trans cb.d (by omega))) rfl, p_loadSh Tryz.isAgg74 Tryz.sizeOf74 rfl rfl rfl rfl, p_call Tryz.func170 rfl rfl rfl rfl (d_pred_norm (hc) (cc.mono (by omega) (by omega))) rfl, p_field (fv_74_2) rfl rfl rfl rfl, p_loadSh Tryz.isAgg74 Tryz.sizeOf74 rfl rfl rfl rfl, p_call Tryz.func170 rfl rfl rfl rfl (d_pred_norm (hd) (cd.mono (by omega) (by omega))) rfl, p_field (fv_74_2) rfl rfl rfl rfl, p_call Tryz.func169 rfl rfl rfl rfl (d_whole_Mul (isInt_n _) (isInt_n _) (Nat.le_trans cc.d (by omega)) (Nat.le_trans cd.d (by omega))) rfl, al_alloc Tryz.zeroValue55 rfl, al_alloc Tryz.zeroValue55 rfl, trivial⟩ fun g1 => ⟨_, _, rfl, rfl, ?_⟩
  refine a_storeOw 0 Tryz.sizeOf55 rfl rfl rfl rfl rfl rfl rfl ?_
  refine a_storeOw 1 Tryz.sizeOf55 rfl rfl rfl rfl rfl rfl rfl ?_
  refine aw_nil ?_
  refine ac_seq ?_
  refine ac_draw mixed_ 12 [25, 26, 27, 28, 29, 30, 31, 32, 33, 34, 35, 36] [[], [], [0, 1], [], [], [3, 4], [2, 5], [], [], [7, 8], [], []] [.agg [pl c.x, pl c.y, sg c.d, mg c.d], .agg [pl d.x, pl d.y, sg d.d, mg d.d], .one (pl (papart c d)), .agg [sg (a.d * b.d), mg (a.d * b.d)], .agg [sg (a.d * b.d), mg (a.d * b.d)], .agg [sg ((a.d * b.d) * (a.d * b.d)), mg ((a.d * b.d) * (a.d * b.d))], .one (pl (pscale (papart c d) ((a.d * b.d) * (a.d * b.d)))), .agg [pl a.x, pl a.y, sg a.d, mg a.d], .agg [pl b.x, pl b.y, sg b.d, mg b.d], .one (pl (papart a b)), .agg [sg (c.d * d.d), mg (c.d * d.d)], .agg [sg (c.d * d.d), mg (c.d * d.d)]] rfl rfl rfl ⟨p_loadSh Tryz.isAgg74 Tryz.sizeOf74 rfl rfl rfl rfl, p_loadSh Tryz.isAgg74 Tryz.sizeOf74 rfl rfl rfl rfl, p_call Tryz.func173 rfl rfl rfl rfl (d_pred_apart (hc) (hd) (cc) (cd)) rfl, p_loadOw 0 Tryz.isAgg55 Tryz.sizeOf55 rfl rfl rfl rfl rfl, p_loadOw 0 Tryz.isAgg55 Tryz.sizeOf55 rfl rfl rfl rfl rfl, p_call Tryz.func169 rfl rfl rfl rfl (d_whole_Mul (isInt_n _) (isInt_n _) (Nat.le_trans (isz_dd ca cb) (by decide)) (Nat.le_trans (isz_dd ca cb) (by decide))) rfl, p_call Tryz.func172 rfl rfl rfl rfl (d_poly_Scale (Nat.lt_of_le_of_lt (pb_apart cc cd).2.1 (by decide)) (bd_mono (pb_apart cc cd).2.2 (by decide)) (Nat.le_trans (isz_dd2 ca cb) (by decide))) rfl, p_loadSh Tryz.isAgg74 Tryz.sizeOf74 rfl rfl rfl rfl, p_loadSh Tryz.isAgg74 Tryz.sizeOf74 rfl rfl rfl rfl, p_call Tryz.func173 rfl rfl rfl rfl (d_pred_apart (ha) (hb) (ca) (cb)) rfl, p_loadOw 1 Tryz.isAgg55 Tryz.sizeOf55 rfl rfl rfl rfl rfl, p_loadOw 1 Tryz.isAgg55 Tryz.sizeOf55 rfl rfl rfl rfl rfl, trivial⟩ rfl ?_
  refine w_ (p_call Tryz.func169 rfl rfl rfl rfl (d_whole_Mul (isInt_n _) (isInt_n _) (Nat.le_trans (isz_dd cc cd) (by decide)) (Nat.le_trans (isz_dd cc cd) (by decide))) rfl) ?_
  refine w_ (p_call Tryz.func172 rfl rfl rfl rfl (d_poly_Scale (Nat.lt_of_le_of_lt (pb_apart ca cb).2.1 (by decide)) (bd_mono (pb_apart ca cb).2.2 (by decide)) (Nat.le_trans (isz_dd2 cc cd) (by decide))) rfl) ?_
  refine w_ (p_call Tryz.func171 rfl rfl rfl rfl (d_poly_Sub (Nat.lt_of_le_of_lt (Nat.le_trans (len_pscale _ _) (pb_apart cc cd).2.1) (by decide)) (Nat.lt_of_le_of_lt (Nat.le_trans (len_pscale _ _) (pb_apart ca cb).2.1) (by decide)) (bd_mono (bd_pscale (pb_apart cc cd).2.2 (isz_dd2 ca cb)) (by decide)) (bd_mono (bd_pscale (pb_apart ca cb).2.2 (isz_dd2 cc cd)) (by decide))) rfl) ?_
  refine w_ (p_assign rfl rfl) ?_
  refine aw_nil ?_
  refine ac_ret ?_
  exact retB_1 Tryz.results100 (rv_tmp rfl rfl) (rfl)

set_option maxRecDepth 20000 in
theorem d_cert_Dist {a b c d : Pt} {q : Rat} (ha : Nml a.c) (hb : Nml b.c) (hc : Nml c.c) (hd : Nml d.c) (ca : Cb a.c) (cb : Cb b.c) (cc : Cb c.c) (cd : Cb d.c) (hq : Qb q) : Does Tryz.prog 201 [.one (.int .i64 5), .agg [pl ([-q.num, (q.den : Int)]), sg q.num, mg q.num, sg ((q.den : Int)), mg ((q.den : Int)), sg q.num, mg q.num, sg ((q.den : Int)), mg ((q.den : Int))], .one (.row [[pl a.c.x, pl a.c.y, sg a.c.d, mg a.c.d, .int .i64 a.id], [pl b.c.x, pl b.c.y, sg b.c.d, mg b.c.d, .int .i64 b.id], [pl c.c.x, pl c.c.y, sg c.c.d, mg c.c.d, .int .i64 c.id], [pl d.c.x, pl d.c.y, sg d.c.d, mg d.c.d, .int .i64 d.id]])] (.tup [.agg [.int .i64 ((((mkDist q a b c d))).kind), .int .i64 ((((mkDist q a b c d))).i0), .int .i64 ((((mkDist q a b c d))).i1), .int .i64 ((((mkDist q a b c d))).i2), .int .i64 ((((mkDist q a b c d))).i3), pl (((mkDist q a b c d)).p), .int .i64 (((mkDist q a b c d)).want)], .one (.int .i64 0)]) := by
  refine does_ (n := 139) Tryz.func201 rfl Tryz.ntmps201 rfl ?_
  refine ac_seq ?_
  refine ac_reg ?_
  refine w_ (p_boxS rfl rfl rfl rfl) ?_
  refine a_alloc Tryz.zeroValue166 rfl rfl fun g1 => ?_
  refine w_ (p_assign rfl rfl) ?_
  refine aw_nil ?_
  refine ac_seq ?_
  refine ac_seq ?_
  refine ac_reg ?_
  refine w_ (p_move rfl rfl) ?_
  refine w_ (p_len (m := 4) Tryz.runUnderlying22 rfl (rfl) rfl) ?_
  refine w_ (p_move rfl rfl) ?_
  refine w_ (p_call Tryz.func274 rfl rfl rfl rfl (d_cert_points5) rfl) ?_
  refine w_ (p_cmp (b := false) rfl rfl rfl rfl) ?_
  refine aw_nil ?_
  refine ac_f rfl (rfl) ?_
  refine ac_skip ?_
  refine ac_seq ?_
  refine ac_reg ?_
  refine w_ (p_move rfl rfl) ?_
  refine w_ (p_build (bd_44) rfl rfl rfl rfl) ?_
  refine w_ (p_build (bd_166) rfl rfl rfl rfl) ?_
  refine a_alloc Tryz.zeroValue166 rfl rfl fun g2 => ?_
  refine a_storeOw 0 Tryz.sizeOf166 rfl rfl rfl rfl rfl rfl rfl ?_
  refine aw_nil ?_
  refine ac_seq ?_
  refine ac_seq ?_
  refine ac_reg ?_
  refine w_ (p_move rfl rfl) ?_
  refine w_ (p_len (m := 4) Tryz.runUnderlying22 rfl (rfl) rfl) ?_
  refine w_ (p_move rfl rfl) ?_
  refine aw_nil ?_
  refine ac_block ?_
  refine ac_rounds 5 ?_
  refine ac_round ?_
  refine ac_seq ?_
  refine ac_reg ?_
  refine w_ (p_cmp (b := true) rfl rfl rfl rfl) ?_
  refine aw_nil ?_
  refine ac_seq ?_
  refine ac_t rfl (rfl) ?_
  refine ac_skip ?_
  refine ac_seq ?_
  refine ac_block ?_
  refine ac_seq ?_
  refine ac_reg ?_
  refine w_ (p_move rfl rfl) ?_
  refine w_ (p_index (0) Tryz.runUnderlying22 Tryz.sizeOf76 rfl rfl rfl rfl rfl rfl) ?_
  refine w_ (p_loadSh Tryz.isAgg76 Tryz.sizeOf76 rfl rfl rfl rfl) ?_
  refine a_alloc Tryz.zeroValue76 rfl rfl fun g3 => ?_
  refine w_ (p_assign rfl rfl) ?_
  refine a_storeOw 0 Tryz.sizeOf76 rfl rfl rfl rfl rfl rfl rfl ?_
  refine aw_nil ?_
  refine ac_reg ?_
  refine w_ (p_move rfl rfl) ?_
  refine w_ (p_fieldOw fa_76_1 rfl rfl) ?_
  refine w_ (p_loadOw 0 Tryz.isAgg3 Tryz.sizeOf3 rfl rfl rfl rfl rfl) ?_
  refine w_ (p_fieldOw fa_166_0 rfl rfl) ?_
  refine w_ (p_fieldOw fa_44_1 rfl rfl) ?_
  refine w_ (p_indexArrOw 0 Tryz.runUnderlying42 Tryz.sizeOf3 rfl rfl rfl (by decide) rfl) ?_
  refine a_storeOw 1 Tryz.sizeOf3 rfl rfl rfl rfl rfl rfl rfl ?_
  refine aw_nil ?_
  refine ac_reg ?_
  refine w_ (p_add (r := ((1 : Nat) : Int)) rfl rfl (rfl) rfl) ?_
  refine w_ (p_move rfl rfl) ?_
  refine aw_nil ?_
  refine ac_round ?_
  refine ac_seq ?_
  refine ac_reg ?_
  refine w_ (p_cmp (b := true) rfl rfl rfl rfl) ?_
  refine aw_nil ?_
  refine ac_seq ?_
  refine ac_t rfl (rfl) ?_
  refine ac_skip ?_
  refine ac_seq ?_
  refine ac_block ?_
  refine ac_seq ?_
  refine ac_reg ?_
  refine w_ (p_move rfl rfl) ?_
  refine w_ (p_index (1) Tryz.runUnderlying22 Tryz.sizeOf76 rfl rfl rfl rfl rfl rfl) ?_
  refine w_ (p_loadSh Tryz.isAgg76 Tryz.sizeOf76 rfl rfl rfl rfl) ?_
  refine a_alloc Tryz.zeroValue76 rfl rfl fun g4 => ?_
  refine w_ (p_assign rfl rfl) ?_
  refine a_storeOw 0 Tryz.sizeOf76 rfl rfl rfl rfl rfl rfl rfl ?_
  refine aw_nil ?_
  refine ac_reg ?_
  refine w_ (p_move rfl rfl) ?_
  refine w_ (p_fieldOw fa_76_1 rfl rfl) ?_
  refine w_ (p_loadOw 0 Tryz.isAgg3 Tryz.sizeOf3 rfl rfl rfl rfl rfl) ?_
  refine w_ (p_fieldOw fa_166_0 rfl rfl) ?_
  refine w_ (p_fieldOw fa_44_1 rfl rfl) ?_
  refine w_ (p_indexArrOw 1 Tryz.runUnderlying42 Tryz.sizeOf3 rfl rfl rfl (by decide) rfl) ?_
  refine a_storeOw 2 Tryz.sizeOf3 rfl rfl rfl rfl rfl rfl rfl ?_
  refine aw_nil ?_
  refine ac_reg ?_
  refine w_ (p_add (r := ((2 : Nat) : Int)) rfl rfl (rfl) rfl) ?_
  refine w_ (p_move rfl rfl) ?_
  refine aw_nil ?_
  refine ac_round ?_
  refine ac_seq ?_
  refine ac_reg ?_
  refine w_ (p_cmp (b := true) rfl rfl rfl rfl) ?_
  refine aw_nil ?_
  refine ac_seq ?_
  refine ac_t rfl (rfl) ?_
  refine ac_skip ?_
  refine ac_seq ?_
  refine ac_block ?_
  refine ac_seq ?_
  refine ac_reg ?_
  refine w_ (p_move rfl rfl) ?_
  refine w_ (p_index (2) Tryz.runUnderlying22 Tryz.sizeOf76 rfl rfl rfl rfl rfl rfl) ?_
  refine w_ (p_loadSh Tryz.isAgg76 Tryz.sizeOf76 rfl rfl rfl rfl) ?_
  refine a_alloc Tryz.zeroValue76 rfl rfl fun g5 => ?_
  refine w_ (p_assign rfl rfl) ?_
  refine a_storeOw 0 Tryz.sizeOf76 rfl rfl rfl rfl rfl rfl rfl ?_
  refine aw_nil ?_
  refine ac_reg ?_
  refine w_ (p_move rfl rfl) ?_
  refine w_ (p_fieldOw fa_76_1 rfl rfl) ?_
  refine w_ (p_loadOw 0 Tryz.isAgg3 Tryz.sizeOf3 rfl rfl rfl rfl rfl) ?_
  refine w_ (p_fieldOw fa_166_0 rfl rfl) ?_
  refine w_ (p_fieldOw fa_44_1 rfl rfl) ?_
  refine w_ (p_indexArrOw 2 Tryz.runUnderlying42 Tryz.sizeOf3 rfl rfl rfl (by decide) rfl) ?_
  refine a_storeOw 3 Tryz.sizeOf3 rfl rfl rfl rfl rfl rfl rfl ?_
  refine aw_nil ?_
  refine ac_reg ?_
  refine w_ (p_add (r := ((3 : Nat) : Int)) rfl rfl (rfl) rfl) ?_
  refine w_ (p_move rfl rfl) ?_
  refine aw_nil ?_
  refine ac_round ?_
  refine ac_seq ?_
  refine ac_reg ?_
  refine w_ (p_cmp (b := true) rfl rfl rfl rfl) ?_
  refine aw_nil ?_
  refine ac_seq ?_
  refine ac_t rfl (rfl) ?_
  refine ac_skip ?_
  refine ac_seq ?_
  refine ac_block ?_
  refine ac_seq ?_
  refine ac_reg ?_
  refine w_ (p_move rfl rfl) ?_
  refine w_ (p_index (3) Tryz.runUnderlying22 Tryz.sizeOf76 rfl rfl rfl rfl rfl rfl) ?_
  refine w_ (p_loadSh Tryz.isAgg76 Tryz.sizeOf76 rfl rfl rfl rfl) ?_
  refine a_alloc Tryz.zeroValue76 rfl rfl fun g6 => ?_
  refine w_ (p_assign rfl rfl) ?_
  refine a_storeOw 0 Tryz.sizeOf76 rfl rfl rfl rfl rfl rfl rfl ?_
  refine aw_nil ?_
  refine ac_reg ?_
  refine w_ (p_move rfl rfl) ?_
  refine w_ (p_fieldOw fa_76_1 rfl rfl) ?_
  refine w_ (p_loadOw 0 Tryz.isAgg3 Tryz.sizeOf3 rfl rfl rfl rfl rfl) ?_
  refine w_ (p_fieldOw fa_166_0 rfl rfl) ?_
  refine w_ (p_fieldOw fa_44_1 rfl rfl) ?_
  refine w_ (p_indexArrOw 3 Tryz.runUnderlying42 Tryz.sizeOf3 rfl rfl rfl (by decide) rfl) ?_
  refine a_storeOw 4 Tryz.sizeOf3 rfl rfl rfl rfl rfl rfl rfl ?_
  refine aw_nil ?_
  refine ac_reg ?_
  refine w_ (p_add (r := ((4 : Nat) : Int)) rfl rfl (rfl) rfl) ?_
  refine w_ (p_move rfl rfl) ?_
  refine aw_nil ?_
  refine ac_round ?_
  refine ac_seq ?_
  refine ac_reg ?_
  refine w_ (p_cmp (b := false) rfl rfl rfl rfl) ?_
  refine aw_nil ?_
  refine ac_seq ?_
  refine ac_f rfl (rfl) ?_
  refine ac_exit ?_
  repeat refine seqQ_exit ?_
  refine blkQ_here ?_
  refine ac_seq ?_
  refine ac_seq ?_
  refine ac_reg ?_
  refine w_ (p_move rfl rfl) ?_
  refine aw_nil ?_
  refine ac_block ?_
  refine ac_seq ?_
  refine ac_reg ?_
  refine w_ (p_cmp (b := false) rfl rfl rfl rfl) ?_
  refine w_ (p_assign rfl rfl) ?_
  refine aw_nil ?_
  refine ac_f rfl (rfl) ?_
  refine ac_seq ?_
  refine ac_reg ?_
  refine w_ (p_cmp (b := false) rfl rfl rfl rfl) ?_
  refine w_ (p_assign rfl rfl) ?_
  refine aw_nil ?_
  refine ac_f rfl (rfl) ?_
  refine ac_seq ?_
  refine ac_reg ?_
  refine w_ (p_cmp (b := false) rfl rfl rfl rfl) ?_
  refine w_ (p_assign rfl rfl) ?_
  refine aw_nil ?_
  refine ac_f rfl (rfl) ?_
  refine ac_seq ?_
  refine ac_reg ?_
  refine w_ (p_cmp (b := false) rfl rfl rfl rfl) ?_
  refine w_ (p_assign rfl rfl) ?_
  refine aw_nil ?_
  refine ac_f rfl (rfl) ?_
  refine ac_draw mixed_ 16 [35, 36, 37, 38, 39, 40, 41, 42, 43, 44, 45, 46, 47, 48, 49, 50] [[], [0], [1], [2], [], [4], [5], [6], [], [8], [9], [10], [], [12], [13], [14]] [.one (.row [[pl a.c.x, pl a.c.y, sg a.c.d, mg a.c.d, .int .i64 a.id], [pl b.c.x, pl b.c.y, sg b.c.d, mg b.c.d, .int .i64 b.id], [pl c.c.x, pl c.c.y, sg c.c.d, mg c.c.d, .int .i64 c.id], [pl d.c.x, pl d.c.y, sg d.c.d, mg d.c.d, .int .i64 d.id]]), .one (.sh [pl a.c.x, pl a.c.y, sg a.c.d, mg a.c.d, .int .i64 a.id]), .one (.sh [pl a.c.x, pl a.c.y, sg a.c.d, mg a.c.d, .int .i64 a.id]), .agg [pl a.c.x, pl a.c.y, sg a.c.d, mg a.c.d], .one (.row [[pl a.c.x, pl a.c.y, sg a.c.d, mg a.c.d, .int .i64 a.id], [pl b.c.x, pl b.c.y, sg b.c.d, mg b.c.d, .int .i64 b.id], [pl c.c.x, pl c.c.y, sg c.c.d, mg c.c.d, .int .i64 c.id], [pl d.c.x, pl d.c.y, sg d.c.d, mg d.c.d, .int .i64 d.id]]), .one (.sh [pl b.c.x, pl b.c.y, sg b.c.d, mg b.c.d, .int .i64 b.id]), .one (.sh [pl b.c.x, pl b.c.y, sg b.c.d, mg b.c.d, .int .i64 b.id]), .agg [pl b.c.x, pl b.c.y, sg b.c.d, mg b.c.d], .one (.row [[pl a.c.x, pl a.c.y, sg a.c.d, mg a.c.d, .int .i64 a.id], [pl b.c.x, pl b.c.y, sg b.c.d, mg b.c.d, .int .i64 b.id], [pl c.c.x, pl c.c.y, sg c.c.d, mg c.c.d, .int .i64 c.id], [pl d.c.x, pl d.c.y, sg d.c.d, mg d.c.d, .int .i64 d.id]]), .one (.sh [pl c.c.x, pl c.c.y, sg c.c.d, mg c.c.d, .int .i64 c.id]), .one (.sh [pl c.c.x, pl c.c.y, sg c.c.d, mg c.c.d, .int .i64 c.id]), .agg [pl c.c.x, pl c.c.y, sg c.c.d, mg c.c.d], .one (.row [[pl a.c.x, pl a.c.y, sg a.c.d, mg a.c.d, .int .i64 a.id], [pl b.c.x, pl b.c.y, sg b.c.d, mg b.c.d, .int .i64 b.id], [pl c.c.x, pl c.c.y, sg c.c.d, mg c.c.d, .int .i64 c.id], [pl d.c.x, pl d.c.y, sg d.c.d, mg d.c.d, .int .i64 d.id]]), .one (.sh [pl d.c.x, pl d.c.y, sg d.c.d, mg d.c.d, .int .i64 d.id]), .one (.sh [pl d.c.x, pl d.c.y, sg d.c.d, mg d.c.d, .int .i64 d.id]), .agg [pl d.c.x, pl d.c.y, sg d.c.d, mg d.c.d]] rfl rfl rfl ⟨p_move rfl rfl, p_index (0) Tryz.runUnderlying22 Tryz.sizeOf76 rfl rfl rfl rfl rfl rfl, p_fieldSh fa_76_0 rfl rfl rfl, p_loadSh Tryz.isAgg74 Tryz.sizeOf74 rfl rfl rfl rfl, p_move rfl rfl, p_index (1) Tryz.runUnderlying22 Tryz.sizeOf76 rfl rfl rfl rfl rfl rfl, p_fieldSh fa_76_0 rfl rfl rfl, p_loadSh Tryz.isAgg74 Tryz.sizeOf74 rfl rfl rfl rfl, p_move rfl rfl, p_index (2) Tryz.runUnderlying22 Tryz.sizeOf76 rfl rfl rfl rfl rfl rfl, p_fieldSh fa_76_0 rfl rfl rfl, p_loadSh Tryz.isAgg74 Tryz.sizeOf74 rfl rfl rfl rfl, p_move rfl rfl, p_index (3) Tryz.runUnderlying22 Tryz.sizeOf76 rfl rfl rfl rfl rfl rfl, p_fieldSh fa_76_0 rfl rfl rfl, p_loadSh Tryz.isAgg74 Tryz.sizeOf74 rfl rfl rfl rfl, trivial⟩ rfl ?_
  refine w_ (p_call Tryz.func100 rfl rfl rfl rfl (d_pred_Farther (ha) (hb) (hc) (hd) (ca) (cb) (cc) (cd)) rfl) ?_
  refine w_ (p_fieldOw fa_166_1 rfl rfl) ?_
  refine a_storeOw 4 Tryz.sizeOf52 rfl rfl rfl rfl rfl rfl rfl ?_
  refine aw_nil ?_
  refine ac_seq ?_
  refine ac_reg ?_
  refine w_ (p_fieldOw fa_166_1 rfl rfl) ?_
  refine w_ (p_loadOw 4 Tryz.isAgg52 Tryz.sizeOf52 rfl rfl rfl rfl rfl) ?_
  refine w_ (p_loadSh Tryz.isAgg59 Tryz.sizeOf59 rfl rfl rfl rfl) ?_
  refine w_ (p_call Tryz.func99 rfl rfl rfl rfl (d_germ_AtQ (pb_farther ca cb cc cd) (hq)) rfl) ?_
  refine w_ (p_fieldOw fa_166_2 rfl rfl) ?_
  refine a_storeOw 4 Tryz.sizeOf3 rfl rfl rfl rfl rfl rfl rfl ?_
  refine aw_nil ?_
  refine ac_seq ?_
  refine ac_reg ?_
  refine w_ (p_loadOw 4 Tryz.isAgg166 Tryz.sizeOf166 rfl rfl rfl rfl rfl) ?_
  refine a_storeOw 5 Tryz.sizeOf166 rfl rfl rfl rfl rfl rfl rfl ?_
  refine w_ (p_assign rfl rfl) ?_
  refine aw_nil ?_
  refine ac_ret ?_
  exact retB_2 Tryz.results201 (rv_cell 5 Tryz.isAgg166 Tryz.sizeOf166 rfl rfl rfl rfl rfl) (rv_tmp rfl rfl) (by simp only [mkDist])

set_option maxRecDepth 20000 in
theorem d_pairs {l : List Pt} {fid : Nat} {post : List LV} {fn : Func} {I : List (Pt × Pt) → List OB → Prop} {B0 : List OB} (hfn : Tryz.prog.funcs[fid]? = some fn) (hnm : (fn.name == "runtime.NumGoroutine") = false) (hbd : fn.body.isNone = false) (hl : l.length ≤ 1000)
    (hstep : ∀ (ps : List (Pt × Pt)) (c d : Pt) (B : List OB), c ∈ l → d ∈ l → ps.length < l.length * l.length → I ps B → DoesB Tryz.prog fid ([].map AV.one ++ [.agg (ofPt c), .agg (ofPt d)] ++ post.map .one) B fun R B' => R = .tup [] ∧ I (ps ++ [(c, d)]) B')
    (h0 : I [] B0) : DoesB Tryz.prog 198 [.one (pts l), .one (.ofn fid [] post)] B0 fun R B' => R = .tup [] ∧ I (pairsOf l) B' := by
  refine does_ (n := 30) Tryz.func198 rfl Tryz.ntmps198 rfl ?_
  refine ac_seq ?_
  refine ac_reg ?_
  refine w_ (p_move rfl rfl) ?_
  refine w_ (p_len (m := l.length) Tryz.runUnderlying22 rfl (rlen_pts _) rfl) ?_
  refine w_ (p_move rfl rfl) ?_
  refine aw_nil ?_
  refine ac_block ?_
  refine ac_pick [0, 1, 8, 9, 10] rfl ?_
  refine ac_loop (fun m L B => ∃ i B1, i ≤ l.length ∧ I (pairsK i l) B1 ∧ m = l.length - i ∧ L = [(0, .one (pts l)), (1, .one (.ofn fid [] post)), (8, .one (pts l)), (9, .one (.int .i64 (((l.length : Nat) : Int)))), (10, .one (.int .i64 (((i : Nat) : Int))))] ∧ B = B1) (m := _) ⟨0, B0, Nat.zero_le _, h0, rfl, rfl, rfl⟩ ?_
  rintro m L B ⟨i, B1, hp0, hp1, hm, rfl, hBe⟩
  obtain rfl := hBe.symm
  by_cases hlt : i < l.length
  · obtain ⟨c, hc⟩ : ∃ c, l[i]? = some c := ⟨_, List.getElem?_eq_getElem hlt⟩
    refine ac_seq ?_
    refine ac_reg ?_
    refine w_ (p_cmp rfl rfl rfl rfl) ?_
    refine aw_nil ?_
    refine ac_seq ?_
    refine ac_t rfl (decide_eq_true (by omega)) ?_
    refine ac_skip ?_
    refine ac_seq ?_
    refine ac_block ?_
    refine ac_seq ?_
    refine ac_reg ?_
    refine w_ (p_move rfl rfl) ?_
    refine w_ (p_index (i) Tryz.runUnderlying22 Tryz.sizeOf76 rfl rfl (rfl) (map_get hc) rfl rfl) ?_
    refine w_ (p_loadSh Tryz.isAgg76 Tryz.sizeOf76 rfl rfl rfl rfl) ?_
    refine a_alloc Tryz.zeroValue76 rfl rfl fun g1 => ?_
    refine w_ (p_assign rfl rfl) ?_
    refine a_storeOw 0 Tryz.sizeOf76 rfl rfl rfl rfl rfl rfl rfl ?_
    refine aw_nil ?_
    refine ac_seq ?_
    refine ac_reg ?_
    refine w_ (p_move rfl rfl) ?_
    refine w_ (p_move rfl rfl) ?_
    refine w_ (p_add (r := ((i + 1 : Nat) : Int)) rfl rfl (i64_is (by omega) (by omega)) rfl) ?_
    refine w_ (p_sliceLo (i + 1) Tryz.runUnderlying22 Tryz.sizeOf76 rfl rfl rfl (by rw [List.length_map]; omega) (map_w l (fun _ => rfl)) (l' := (l.drop (i + 1)).map ofPt) (by rw [List.map_drop]) rfl) ?_
    refine w_ (p_len (m := ((l.drop (i + 1))).length) Tryz.runUnderlying22 rfl (rlen_pts _) rfl) ?_
    refine w_ (p_move rfl rfl) ?_
    refine aw_nil ?_
    refine ac_block ?_
    refine ac_pick [0, 1, 5, 8, 9, 10, 18, 19, 20] rfl ?_
    refine ac_loop (fun m L B => ∃ j B2, j ≤ (l.drop (i + 1)).length ∧ I (pairsK i l ++ ((l.drop (i + 1)).take j).map (fun y => (c, y))) B2 ∧ m = (l.drop (i + 1)).length - j ∧ L = [(0, .one (pts l)), (1, .one (.ofn fid [] post)), (5, .one (.ow g1 0)), (8, .one (pts l)), (9, .one (.int .i64 (((l.length : Nat) : Int)))), (10, .one (.int .i64 (((i : Nat) : Int)))), (18, .one (pts ((l.drop (i + 1))))), (19, .one (.int .i64 (((((l.drop (i + 1))).length : Nat) : Int)))), (20, .one (.int .i64 (((j : Nat) : Int))))] ∧ B = .blk g1 76 [pl c.c.x, pl c.c.y, sg c.c.d, mg c.c.d, .int .i64 c.id] :: B2) (m := _) ⟨0, B1, Nat.zero_le _, by simpa using hp1, rfl, rfl, rfl⟩ ?_
    rintro m L B ⟨j, B2, hq0, hq1, hm, rfl, rfl⟩
    by_cases h2 : j < (l.drop (i + 1)).length
    · have hdl : (l.drop (i + 1)).length ≤ 1000 := by rw [List.length_drop]; omega
      obtain ⟨d, hd⟩ : ∃ d, (l.drop (i + 1))[j]? = some d := ⟨_, List.getElem?_eq_getElem h2⟩
      refine ac_seq ?_
      refine ac_reg ?_
      refine w_ (p_cmp rfl rfl rfl rfl) ?_
      refine aw_nil ?_
      refine ac_seq ?_
      refine ac_t rfl (decide_eq_true (by omega)) ?_
      refine ac_skip ?_
      refine ac_seq ?_
      refine ac_block ?_
      refine ac_seq ?_
      refine ac_reg ?_
      refine w_ (p_index (j) Tryz.runUnderlying22 Tryz.sizeOf76 rfl rfl (rfl) (map_get hd) rfl rfl) ?_
      refine w_ (p_loadSh Tryz.isAgg76 Tryz.sizeOf76 rfl rfl rfl rfl) ?_
      refine a_alloc Tryz.zeroValue76 rfl rfl fun g2 => ?_
      refine a_storeOw 0 Tryz.sizeOf76 rfl rfl rfl rfl rfl rfl rfl ?_
      refine aw_nil ?_
      refine ac_reg ?_
      refine w_ (p_move rfl rfl) ?_
      refine w_ (p_loadOw 1 Tryz.isAgg76 Tryz.sizeOf76 rfl rfl rfl rfl rfl) ?_
      refine w_ (p_loadOw 0 Tryz.isAgg76 Tryz.sizeOf76 rfl rfl rfl rfl rfl) ?_
      refine aw_swap (A := [.blk g2 76 [pl d.c.x, pl d.c.y, sg d.c.d, mg d.c.d, .int .i64 d.id], .blk g1 76 [pl c.c.x, pl c.c.y, sg c.c.d, mg c.c.d, .int .i64 c.id]]) (C := B2) ?_
      refine a_callsFn rfl hfn hnm hbd rfl rfl (hstep _ c d B2 (List.mem_of_getElem? hc) (List.mem_of_mem_drop (List.mem_of_getElem? hd)) (pairs_room hlt h2) hq1) rfl fun r_ B3 hr_ => ?_
      obtain ⟨rfl, hB3⟩ := hr_
      refine aw_swap (A := B3) (C := [.blk g2 76 [pl d.c.x, pl d.c.y, sg d.c.d, mg d.c.d, .int .i64 d.id], .blk g1 76 [pl c.c.x, pl c.c.y, sg c.c.d, mg c.c.d, .int .i64 c.id]]) ?_
      refine aw_nil ?_
      refine ac_reg ?_
      refine w_ (p_add (r := ((j + 1 : Nat) : Int)) rfl rfl (i64_is (by omega) (by omega)) rfl) ?_
      refine w_ (p_move rfl rfl) ?_
      refine aw_pick [0, 1, 5, 8, 9, 10, 18, 19, 20] rfl ?_
      refine aw_drop 0 rfl ?_
      refine aw_nil ?_
      refine ⟨_, ?_, j + 1, _, by omega, by rw [take_snoc hd, List.map_append, ← List.append_assoc]; exact hB3, rfl, rfl, rfl⟩
      omega
    · skip
      refine ac_seq ?_
      refine ac_reg ?_
      refine w_ (p_cmp rfl rfl rfl rfl) ?_
      refine aw_nil ?_
      refine ac_seq ?_
      refine ac_f rfl (decide_eq_false (by omega)) ?_
      refine ac_exit ?_
      repeat refine seqQ_exit ?_
      refine blkQ_here ?_
      refine ac_reg ?_
      refine w_ (p_add (r := ((i + 1 : Nat) : Int)) rfl rfl (i64_is (by omega) (by omega)) rfl) ?_
      refine w_ (p_move rfl rfl) ?_
      refine aw_pick [0, 1, 8, 9, 10] rfl ?_
      refine aw_drop 0 rfl ?_
      refine aw_nil ?_
      refine ⟨_, ?_, i + 1, _, by omega, by rw [pairsK_next l i c hc, ← List.take_of_length_le (l := l.drop (i + 1)) (i := j) (by omega)]; exact hq1, rfl, rfl, rfl⟩
      omega
  · have hi : i = l.length := by omega
    refine ac_seq ?_
    refine ac_reg ?_
    refine w_ (p_cmp rfl rfl rfl rfl) ?_
    refine aw_nil ?_
    refine ac_seq ?_
    refine ac_f rfl (decide_eq_false (by omega)) ?_
    refine ac_exit ?_
    repeat refine seqQ_exit ?_
    refine blkQ_here ?_
    -- end
    exact ⟨_, [], _, rvs_0 Tryz.results198, rfl, rfl, by rw [hi] at hp1; exact hp1⟩

theorem good2 {a b : Pt} (h : GoodP [a, b]) : Nml a.c ∧ Nml b.c ∧ Cb a.c ∧ Cb b.c := ⟨(h a (by simp)).1, (h b (by simp)).1, (h a (by simp)).2, (h b (by simp)).2⟩

set_option maxRecDepth 20000 in
theorem d_pair_build1 {ga gb : Nat} {s : Pt × Pt} {c d : Pt} {q : Rat} (g1 : GoodP [s.1, s.2]) (gc : Nml c.c ∧ Cb c.c) (gd : Nml d.c ∧ Cb d.c) (hq : Qb q) : DoesB Tryz.prog 199 [.agg [pl c.c.x, pl c.c.y, sg c.c.d, mg c.c.d, .int .i64 c.id], .agg [pl d.c.x, pl d.c.y, sg d.c.d, mg d.c.d, .int .i64 d.id], .one (.ow ga 0), .one (.ow gb 0), .one (.sh [pl ([-q.num, (q.den : Int)]), sg q.num, mg q.num, sg ((q.den : Int)), mg ((q.den : Int)), sg q.num, mg q.num, sg ((q.den : Int)), mg ((q.den : Int))])] [.blk ga 76 [pl s.1.c.x, pl s.1.c.y, sg s.1.c.d, mg s.1.c.d, .int .i64 s.1.id], .blk gb 76 [pl s.2.c.x, pl s.2.c.y, sg s.2.c.d, mg s.2.c.d, .int .i64 s.2.id]] fun R B => R = .tup [] ∧ B = [.blk ga 76 [pl ((((nearer q s (c, d)).1).c).x), pl ((((nearer q s (c, d)).1).c).y), sg ((((nearer q s (c, d)).1).c).d), mg ((((nearer q s (c, d)).1).c).d), .int .i64 (((nearer q s (c, d)).1).id)], .blk gb 76 [pl ((((nearer q s (c, d)).2).c).x), pl ((((nearer q s (c, d)).2).c).y), sg ((((nearer q s (c, d)).2).c).d), mg ((((nearer q s (c, d)).2).c).d), .int .i64 (((nearer q s (c, d)).2).id)]] := by
  refine does_ (n := 21) Tryz.func199 rfl Tryz.ntmps199 rfl ?_
  by_cases hf : germAt (pfarther s.1.c s.2.c c.c d.c) q < 0
  · have hn : nearer q s (c, d) = (c, d) := if_pos hf
    refine ac_seq ?_
    refine ac_reg ?_
    refine w_ (p_boxS rfl rfl rfl rfl) ?_
    refine w_ (p_boxS rfl rfl rfl rfl) ?_
    refine aw_nil ?_
    refine ac_seq ?_
    refine ac_draw mixed_ 10 [7, 8, 9, 10, 11, 12, 13, 14, 15, 16] [[], [0], [], [2], [], [4], [], [6], [1, 3, 5, 7], []] [.one (.ow ga 0), .agg [pl s.1.c.x, pl s.1.c.y, sg s.1.c.d, mg s.1.c.d], .one (.ow gb 0), .agg [pl s.2.c.x, pl s.2.c.y, sg s.2.c.d, mg s.2.c.d], .one (.sh [pl c.c.x, pl c.c.y, sg c.c.d, mg c.c.d, .int .i64 c.id]), .agg [pl c.c.x, pl c.c.y, sg c.c.d, mg c.c.d], .one (.sh [pl d.c.x, pl d.c.y, sg d.c.d, mg d.c.d, .int .i64 d.id]), .agg [pl d.c.x, pl d.c.y, sg d.c.d, mg d.c.d], .one (pl (pfarther s.1.c s.2.c c.c d.c)), .agg [pl ([-q.num, (q.den : Int)]), sg q.num, mg q.num, sg ((q.den : Int)), mg ((q.den : Int)), sg q.num, mg q.num, sg ((q.den : Int)), mg ((q.den : Int))]] rfl rfl rfl ⟨p_fieldOw fa_76_0 rfl rfl, p_loadOw 0 Tryz.isAgg74 Tryz.sizeOf74 rfl rfl rfl rfl rfl, p_fieldOw fa_76_0 rfl rfl, p_loadOw 1 Tryz.isAgg74 Tryz.sizeOf74 rfl rfl rfl rfl rfl, p_fieldSh fa_76_0 rfl rfl rfl, p_loadSh Tryz.isAgg74 Tryz.sizeOf74 rfl rfl rfl rfl, p_fieldSh fa_76_0 rfl rfl rfl, p_loadSh Tryz.isAgg74 Tryz.sizeOf74 rfl rfl rfl rfl, p_call Tryz.func100 rfl rfl rfl rfl (d_pred_Farther ((good2 g1).1) ((good2 g1).2.1) (gc.1) (gd.1) ((good2 g1).2.2.1) ((good2 g1).2.2.2) (gc.2) (gd.2)) rfl, p_loadSh Tryz.isAgg59 Tryz.sizeOf59 rfl rfl rfl rfl, trivial⟩ rfl ?_
    refine w_ (p_call Tryz.func99 rfl rfl rfl rfl (d_germ_AtQ (pb_farther (good2 g1).2.2.1 (good2 g1).2.2.2 gc.2 gd.2) (hq)) rfl) ?_
    refine w_ (p_cmp rfl rfl rfl rfl) ?_
    refine aw_nil ?_
    refine ac_t rfl (decide_eq_true hf) ?_
    refine ac_drawS mixed_ 2 [19, 20] [[], [], [0]] [.agg [pl c.c.x, pl c.c.y, sg c.c.d, mg c.c.d, .int .i64 c.id], .agg [pl d.c.x, pl d.c.y, sg d.c.d, mg d.c.d, .int .i64 d.id]] (fun B => B = [.blk ga 76 [pl c.c.x, pl c.c.y, sg c.c.d, mg c.c.d, .int .i64 c.id], .blk gb 76 [pl s.2.c.x, pl s.2.c.y, sg s.2.c.d, mg s.2.c.d, .int .i64 s.2.id]]) rfl rfl rfl rfl ⟨p_loadSh Tryz.isAgg76 Tryz.sizeOf76 rfl rfl rfl rfl, p_loadSh Tryz.isAgg76 Tryz.sizeOf76 rfl rfl rfl rfl, trivial⟩ ?_ ?_ ?_
    · intro js_ hj_
      have hj_ : some [0] = some js_ := hj_
      injection hj_ with hj_
      subst hj_
      refine ams_of_aw fun N k_ => ?_
      refine a_storeOw 0 Tryz.sizeOf76 rfl rfl rfl rfl rfl rfl rfl ?_
      exact aw_nil (k_ _ rfl)
    · rintro B_ rfl
      exact ⟨p_loadSh Tryz.isAgg76 Tryz.sizeOf76 rfl rfl rfl rfl, p_loadSh Tryz.isAgg76 Tryz.sizeOf76 rfl rfl rfl rfl, trivial⟩
    · rintro B_ rfl
      refine ⟨_, rfl, ?_⟩
      refine a_storeOw 1 Tryz.sizeOf76 rfl rfl rfl rfl rfl rfl rfl ?_
      refine aw_nil ?_
      -- end
      exact ⟨_, [], _, rvs_0 Tryz.results199 , rfl, ⟨rfl, by rw [hn]⟩⟩
  · have hn : nearer q s (c, d) = s := if_neg hf
    refine ac_seq ?_
    refine ac_reg ?_
    refine w_ (p_boxS rfl rfl rfl rfl) ?_
    refine w_ (p_boxS rfl rfl rfl rfl) ?_
    refine aw_nil ?_
    refine ac_seq ?_
    refine ac_draw mixed_ 10 [7, 8, 9, 10, 11, 12, 13, 14, 15, 16] [[], [0], [], [2], [], [4], [], [6], [1, 3, 5, 7], []] [.one (.ow ga 0), .agg [pl s.1.c.x, pl s.1.c.y, sg s.1.c.d, mg s.1.c.d], .one (.ow gb 0), .agg [pl s.2.c.x, pl s.2.c.y, sg s.2.c.d, mg s.2.c.d], .one (.sh [pl c.c.x, pl c.c.y, sg c.c.d, mg c.c.d, .int .i64 c.id]), .agg [pl c.c.x, pl c.c.y, sg c.c.d, mg c.c.d], .one (.sh [pl d.c.x, pl d.c.y, sg d.c.d, mg d.c.d, .int .i64 d.id]), .agg [pl d.c.x, pl d.c.y, sg d.c.d, mg d.c.d], .one (pl (pfarther s.1.c s.2.c c.c d.c)), .agg [pl ([-q.num, (q.den : Int)]), sg q.num, mg q.num, sg ((q.den : Int)), mg ((q.den : Int)), sg q.num, mg q.num, sg ((q.den : Int)), mg ((q.den : Int))]] rfl rfl rfl ⟨p_fieldOw fa_76_0 rfl rfl, p_loadOw 0 Tryz.isAgg74 Tryz.sizeOf74 rfl rfl rfl rfl rfl, p_fieldOw fa_76_0 rfl rfl, p_loadOw 1 Tryz.isAgg74 Tryz.sizeOf74 rfl rfl rfl rfl rfl, p_fieldSh fa_76_0 rfl rfl rfl, p_loadSh Tryz.isAgg74 Tryz.sizeOf74 rfl rfl rfl rfl, p_fieldSh fa_76_0 rfl rfl rfl, p_loadSh Tryz.isAgg74 Tryz.sizeOf74 rfl rfl rfl rfl, p_call Tryz.func100 rfl rfl rfl rfl (d_pred_Farther ((good2 g1).1) ((good2 g1).2.1) (gc.1) (gd.1) ((good2 g1).2.2.1) ((good2 g1).2.2.2) (gc.2) (gd.2)) rfl, p_loadSh Tryz.isAgg59 Tryz.sizeOf59 rfl rfl rfl rfl, trivial⟩ rfl ?_
    refine w_ (p_call Tryz.func99 rfl rfl rfl rfl (d_germ_AtQ (pb_farther (good2 g1).2.2.1 (good2 g1).2.2.2 gc.2 gd.2) (hq)) rfl) ?_
    refine w_ (p_cmp rfl rfl rfl rfl) ?_
    refine aw_nil ?_
    refine ac_f rfl (decide_eq_false hf) ?_
    refine ac_skip ?_
    -- end
    exact ⟨_, [], _, rvs_0 Tryz.results199 , rfl, ⟨rfl, by rw [hn]⟩⟩

/-- the certificates with one more -/
def distS (q : Rat) (s m : Pt × Pt) (ws : List Ct) : List Ct := if other s m = true then ws ++ [mkDist q s.1 s.2 m.1 m.2] else ws
theorem distS_eq (q : Rat) (s m : Pt × Pt) (ps : List (Pt × Pt)) : distS q s m (dists q s ps) = dists q s (ps ++ [m]) := by
  unfold distS
  split
  · rename_i h; rw [dists_t h]
  · rename_i h; rw [dists_f (by simpa using h)]

set_option maxRecDepth 20000 in
theorem d_pair_build2 {ga gb go : Nat} {r : Option (Nat × Nat)} {s : Pt × Pt} {c d : Pt} {q : Rat} {ws : List Ct} (g1 : GoodP [s.1, s.2]) (gc : Nml c.c ∧ Cb c.c) (gd : Nml d.c ∧ Cb d.c) (hq : Qb q) (hw : ws.length ≤ 1000000) : DoesB Tryz.prog 200 [.agg [pl c.c.x, pl c.c.y, sg c.c.d, mg c.c.d, .int .i64 c.id], .agg [pl d.c.x, pl d.c.y, sg d.c.d, mg d.c.d, .int .i64 d.id], .one (.ow ga 0), .one (.ow gb 0), .one (.sh [pl ([-q.num, (q.den : Int)]), sg q.num, mg q.num, sg ((q.den : Int)), mg ((q.den : Int)), sg q.num, mg q.num, sg ((q.den : Int)), mg ((q.den : Int))]), .one (.ow go 0)] [.row r 166 7 (ws.map ofCt), .blk ga 76 [pl s.1.c.x, pl s.1.c.y, sg s.1.c.d, mg s.1.c.d, .int .i64 s.1.id], .blk gb 76 [pl s.2.c.x, pl s.2.c.y, sg s.2.c.d, mg s.2.c.d, .int .i64 s.2.id], .blk go 48 [.orow r 7 0 ws.length]] fun R B => R = .tup [] ∧ ∃ r', B = [.row r' 166 7 ((distS q s (c, d) ws).map ofCt), .blk ga 76 [pl s.1.c.x, pl s.1.c.y, sg s.1.c.d, mg s.1.c.d, .int .i64 s.1.id], .blk gb 76 [pl s.2.c.x, pl s.2.c.y, sg s.2.c.d, mg s.2.c.d, .int .i64 s.2.id], .blk go 48 [.orow r' 7 0 ((distS q s (c, d) ws).length)]] := by
  refine does_ (n := 36) Tryz.func200 rfl Tryz.ntmps200 rfl ?_
  by_cases h1 : c.id = s.1.id
  · by_cases h3 : d.id = s.2.id
    · have hn : distS q s (c, d) ws = ws := by unfold distS; rw [if_neg (by simp [other, *])]
      refine ac_seq ?_
      refine ac_reg ?_
      refine w_ (p_boxS rfl rfl rfl rfl) ?_
      refine w_ (p_boxS rfl rfl rfl rfl) ?_
      refine aw_nil ?_
      refine ac_seq ?_
      refine ac_reg ?_
      refine w_ (p_fieldSh fa_76_1 rfl rfl rfl) ?_
      refine w_ (p_loadSh Tryz.isAgg3 Tryz.sizeOf3 rfl rfl rfl rfl) ?_
      refine w_ (p_fieldOw fa_76_1 rfl rfl) ?_
      refine w_ (p_loadOw 1 Tryz.isAgg3 Tryz.sizeOf3 rfl rfl rfl rfl rfl) ?_
      refine w_ (p_cmp rfl rfl rfl rfl) ?_
      refine w_ (p_move rfl rfl) ?_
      refine w_ ((p_grun rfl rfl (decide_eq_false (fun h => h h1)) (p_fieldSh fa_76_1 rfl rfl rfl))) ?_
      refine w_ ((p_grun rfl rfl (decide_eq_false (fun h => h h1)) (p_loadSh Tryz.isAgg3 Tryz.sizeOf3 rfl rfl rfl rfl))) ?_
      refine w_ ((p_grun rfl rfl (decide_eq_false (fun h => h h1)) (p_fieldOw fa_76_1 rfl rfl))) ?_
      refine w_ ((p_grun rfl rfl (decide_eq_false (fun h => h h1)) (p_loadOw 2 Tryz.isAgg3 Tryz.sizeOf3 rfl rfl rfl rfl rfl))) ?_
      refine w_ ((p_grun rfl rfl (decide_eq_false (fun h => h h1)) (p_cmp rfl rfl rfl rfl))) ?_
      refine w_ (p_pickF rfl (decide_eq_false (fun h => h h1)) rfl rfl) ?_
      refine aw_nil ?_
      refine ac_f rfl (decide_eq_false (fun h => h h3)) ?_
      refine ac_skip ?_
      -- end
      exact ⟨_, [], _, rvs_0 Tryz.results200 , rfl, ⟨rfl, r, by rw [hn]⟩⟩
    · have hn : distS q s (c, d) ws = ws ++ [mkDist q s.1 s.2 c d] := by unfold distS; rw [if_pos (by simp [other, *])]
      refine ac_seq ?_
      refine ac_reg ?_
      refine w_ (p_boxS rfl rfl rfl rfl) ?_
      refine w_ (p_boxS rfl rfl rfl rfl) ?_
      refine aw_nil ?_
      refine ac_seq ?_
      refine ac_reg ?_
      refine w_ (p_fieldSh fa_76_1 rfl rfl rfl) ?_
      refine w_ (p_loadSh Tryz.isAgg3 Tryz.sizeOf3 rfl rfl rfl rfl) ?_
      refine w_ (p_fieldOw fa_76_1 rfl rfl) ?_
      refine w_ (p_loadOw 1 Tryz.isAgg3 Tryz.sizeOf3 rfl rfl rfl rfl rfl) ?_
      refine w_ (p_cmp rfl rfl rfl rfl) ?_
      refine w_ (p_move rfl rfl) ?_
      refine w_ ((p_grun rfl rfl (decide_eq_false (fun h => h h1)) (p_fieldSh fa_76_1 rfl rfl rfl))) ?_
      refine w_ ((p_grun rfl rfl (decide_eq_false (fun h => h h1)) (p_loadSh Tryz.isAgg3 Tryz.sizeOf3 rfl rfl rfl rfl))) ?_
      refine w_ ((p_grun rfl rfl (decide_eq_false (fun h => h h1)) (p_fieldOw fa_76_1 rfl rfl))) ?_
      refine w_ ((p_grun rfl rfl (decide_eq_false (fun h => h h1)) (p_loadOw 2 Tryz.isAgg3 Tryz.sizeOf3 rfl rfl rfl rfl rfl))) ?_
      refine w_ ((p_grun rfl rfl (decide_eq_false (fun h => h h1)) (p_cmp rfl rfl rfl rfl))) ?_
      refine w_ (p_pickF rfl (decide_eq_false (fun h => h h1)) rfl rfl) ?_
      refine aw_nil ?_
      refine ac_t rfl (decide_eq_true h3) ?_
      refine ac_seq ?_
      refine ac_reg ?_
      refine w_ (p_loadSh Tryz.isAgg59 Tryz.sizeOf59 rfl rfl rfl rfl) ?_
      refine w_ (p_loadOw 1 Tryz.isAgg76 Tryz.sizeOf76 rfl rfl rfl rfl rfl) ?_
      refine w_ (p_loadOw 2 Tryz.isAgg76 Tryz.sizeOf76 rfl rfl rfl rfl rfl) ?_
      refine w_ (p_loadSh Tryz.isAgg76 Tryz.sizeOf76 rfl rfl rfl rfl) ?_
      refine w_ (p_loadSh Tryz.isAgg76 Tryz.sizeOf76 rfl rfl rfl rfl) ?_
      refine w_ (p_lit Tryz.runUnderlying22 Tryz.sizeOf76 Tryz.zeroValue76 rfl rfl rfl rfl rfl rfl rfl rfl rfl rfl) ?_
      refine w_ (p_call Tryz.func201 rfl rfl rfl rfl (d_cert_Dist ((good2 g1).1) ((good2 g1).2.1) (gc.1) (gd.1) ((good2 g1).2.2.1) ((good2 g1).2.2.2) (gc.2) (gd.2) (hq)) rfl) ?_
      refine w_ (p_move rfl rfl) ?_
      refine w_ (p_extract rfl rfl rfl) ?_
      refine w_ (p_extract rfl rfl rfl) ?_
      refine a_alloc Tryz.zeroValue166 rfl rfl fun g1 => ?_
      refine a_storeOw 0 Tryz.sizeOf166 rfl rfl rfl rfl rfl rfl rfl ?_
      refine w_ (p_assign rfl rfl) ?_
      refine aw_nil ?_
      refine ac_reg ?_
      refine w_ (p_loadOw 4 Tryz.isAgg48 Tryz.sizeOf48 rfl rfl rfl rfl rfl) ?_
      refine w_ (p_loadOw 0 Tryz.isAgg166 Tryz.sizeOf166 rfl rfl rfl rfl rfl) ?_
      refine w_ (p_lit Tryz.runUnderlying48 Tryz.sizeOf166 Tryz.zeroValue166 rfl rfl rfl rfl rfl rfl rfl rfl rfl rfl) ?_
      refine a_append (ls2 := ((ws ++ [mkDist q s.1 s.2 c d]).map ofCt)) (m2 := ws.length + 1) 1 Tryz.runUnderlying48 Tryz.runUnderlying48 Tryz.typeInfo166 rfl rfl Tryz.sizeOf166 Tryz.zeroValue166 rfl rfl rfl rfl rfl rfl rfl (by rw [List.length_map]; exact Nat.le_refl _) (one_w rfl) (one_f rfl) (by show _ + 1 < _; omega) (by rw [List.take_of_length_le (by rw [List.length_map]; exact Nat.le_refl _)]; exact snoc_map ofCt _ _) (rfl) fun r2 => ?_
      refine a_storeOw 4 Tryz.sizeOf48 rfl rfl rfl rfl rfl rfl rfl ?_
      refine aw_nil ?_
      -- end
      exact ⟨_, [1], _, rvs_0 Tryz.results200 , rfl, ⟨rfl, _, by rw [hn, List.length_append]; rfl⟩⟩
  · have hn : distS q s (c, d) ws = ws ++ [mkDist q s.1 s.2 c d] := by unfold distS; rw [if_pos (by simp [other, *])]
    refine ac_seq ?_
    refine ac_reg ?_
    refine w_ (p_boxS rfl rfl rfl rfl) ?_
    refine w_ (p_boxS rfl rfl rfl rfl) ?_
    refine aw_nil ?_
    refine ac_seq ?_
    refine ac_reg ?_
    refine w_ (p_fieldSh fa_76_1 rfl rfl rfl) ?_
    refine w_ (p_loadSh Tryz.isAgg3 Tryz.sizeOf3 rfl rfl rfl rfl) ?_
    refine w_ (p_fieldOw fa_76_1 rfl rfl) ?_
    refine w_ (p_loadOw 1 Tryz.isAgg3 Tryz.sizeOf3 rfl rfl rfl rfl rfl) ?_
    refine w_ (p_cmp rfl rfl rfl rfl) ?_
    refine w_ (p_move rfl rfl) ?_
    refine w_ (p_gskip rfl rfl (decide_eq_true h1) rfl) ?_
    refine w_ (p_gskip rfl rfl (decide_eq_true h1) rfl) ?_
    refine w_ (p_gskip rfl rfl (decide_eq_true h1) rfl) ?_
    refine w_ (p_gskip rfl rfl (decide_eq_true h1) rfl) ?_
    refine w_ (p_gskip rfl rfl (decide_eq_true h1) rfl) ?_
    refine w_ (p_pickT rfl (decide_eq_true h1) rfl rfl) ?_
    refine aw_nil ?_
    refine ac_t rfl (rfl) ?_
    refine ac_seq ?_
    refine ac_reg ?_
    refine w_ (p_loadSh Tryz.isAgg59 Tryz.sizeOf59 rfl rfl rfl rfl) ?_
    refine w_ (p_loadOw 1 Tryz.isAgg76 Tryz.sizeOf76 rfl rfl rfl rfl rfl) ?_
    refine w_ (p_loadOw 2 Tryz.isAgg76 Tryz.sizeOf76 rfl rfl rfl rfl rfl) ?_
    refine w_ (p_loadSh Tryz.isAgg76 Tryz.sizeOf76 rfl rfl rfl rfl) ?_
    refine w_ (p_loadSh Tryz.isAgg76 Tryz.sizeOf76 rfl rfl rfl rfl) ?_
    refine w_ (p_lit Tryz.runUnderlying22 Tryz.sizeOf76 Tryz.zeroValue76 rfl rfl rfl rfl rfl rfl rfl rfl rfl rfl) ?_
    refine w_ (p_call Tryz.func201 rfl rfl rfl rfl (d_cert_Dist ((good2 g1).1) ((good2 g1).2.1) (gc.1) (gd.1) ((good2 g1).2.2.1) ((good2 g1).2.2.2) (gc.2) (gd.2) (hq)) rfl) ?_
    refine w_ (p_move rfl rfl) ?_
    refine w_ (p_extract rfl rfl rfl) ?_
    refine w_ (p_extract rfl rfl rfl) ?_
    refine a_alloc Tryz.zeroValue166 rfl rfl fun g3 => ?_
    refine a_storeOw 0 Tryz.sizeOf166 rfl rfl rfl rfl rfl rfl rfl ?_
    refine w_ (p_assign rfl rfl) ?_
    refine aw_nil ?_
    refine ac_reg ?_
    refine w_ (p_loadOw 4 Tryz.isAgg48 Tryz.sizeOf48 rfl rfl rfl rfl rfl) ?_
    refine w_ (p_loadOw 0 Tryz.isAgg166 Tryz.sizeOf166 rfl rfl rfl rfl rfl) ?_
    refine w_ (p_lit Tryz.runUnderlying48 Tryz.sizeOf166 Tryz.zeroValue166 rfl rfl rfl rfl rfl rfl rfl rfl rfl rfl) ?_
    refine a_append (ls2 := ((ws ++ [mkDist q s.1 s.2 c d]).map ofCt)) (m2 := ws.length + 1) 1 Tryz.runUnderlying48 Tryz.runUnderlying48 Tryz.typeInfo166 rfl rfl Tryz.sizeOf166 Tryz.zeroValue166 rfl rfl rfl rfl rfl rfl rfl (by rw [List.length_map]; exact Nat.le_refl _) (one_w rfl) (one_f rfl) (by show _ + 1 < _; omega) (by rw [List.take_of_length_le (by rw [List.length_map]; exact Nat.le_refl _)]; exact snoc_map ofCt _ _) (rfl) fun r4 => ?_
    refine a_storeOw 4 Tryz.sizeOf48 rfl rfl rfl rfl rfl rfl rfl ?_
    refine aw_nil ?_
    -- end
    exact ⟨_, [1], _, rvs_0 Tryz.results200 , rfl, ⟨rfl, _, by rw [hn, List.length_append]; rfl⟩⟩

theorem pairB_many (q : Rat) {l m : List Pt} {a b : Pt} (h : l = a :: b :: m) : pairB q l = [(nearest q (a, b) (pairsOf l)).1, (nearest q (a, b) (pairsOf l)).2] ∧ pairC q l = dists q (nearest q (a, b) (pairsOf l)) (pairsOf l) := by
  subst h
  simp only [pairB, pairC, and_self]
def pairS1 (ga gb : Nat) (s : Pt × Pt) : List OB := [.blk ga 76 (ofPt s.1), .blk gb 76 (ofPt s.2)]
def pairS2 (ga gb go : Nat) (s : Pt × Pt) (ws : List Ct) (B : List OB) : Prop := ∃ r, B = [.row r 166 7 (ws.map ofCt), .blk ga 76 (ofPt s.1), .blk gb 76 (ofPt s.2), .blk go 48 [.orow r 7 0 ws.length]]
theorem near_good {q : Rat} {l m : List Pt} {a b : Pt} (h : l = a :: b :: m) (hl : GoodP l) {ps : List (Pt × Pt)} (hps : ∀ x ∈ ps, x.1 ∈ l ∧ x.2 ∈ l) : GoodP [(nearest q (a, b) ps).1, (nearest q (a, b) ps).2] := by
  have hm := nearest_mem q (l := l) ps (a, b) ⟨by rw [h]; simp, by rw [h]; simp⟩ hps
  intro x hx
  simp only [List.mem_cons, List.not_mem_nil, or_false] at hx
  rcases hx with rfl | rfl
  · exact hl _ hm.1
  · exact hl _ hm.2

set_option maxRecDepth 20000 in
theorem d_pair_build {g : Nat} {c0 c1 c2 c3 c4 c5 c6 c7 c8 c9 c10 c11 y1 : LV} {l : List Pt} {q : Rat} (hq : Qb q) (hl : GoodP l) (hn : l.length ≤ 1000) : DoesB Tryz.prog 117 [.one (.ow g 0), .agg [pl ([-q.num, (q.den : Int)]), sg q.num, mg q.num, sg ((q.den : Int)), mg ((q.den : Int)), sg q.num, mg q.num, sg ((q.den : Int)), mg ((q.den : Int))]] [.blk g 108 [c0, c1, c2, c3, c4, c5, c6, c7, c8, c9, c10, c11, pts l, y1]] fun r B => r = .one (cts ((pairC q l))) ∧ B = [.blk g 108 [c0, c1, c2, c3, c4, c5, c6, c7, c8, c9, c10, c11, pts l, pts ((pairB q l))]] := by
  refine does_ (n := 39) Tryz.func117 rfl Tryz.ntmps117 rfl ?_
  by_cases h2 : l.length < 2
  · skip
    refine ac_seq ?_
    refine ac_reg ?_
    refine w_ (p_boxS rfl rfl rfl rfl) ?_
    refine w_ (p_assign rfl rfl) ?_
    refine aw_nil ?_
    refine ac_seq ?_
    refine ac_reg ?_
    refine w_ (p_move rfl rfl) ?_
    refine w_ (p_nilCheck rfl rfl rfl) ?_
    refine w_ (p_fieldOw fa_108_1 rfl rfl) ?_
    refine w_ (p_loadOw 0 Tryz.isAgg106 Tryz.sizeOf106 rfl rfl rfl rfl rfl) ?_
    refine w_ (p_call Tryz.func197 rfl rfl rfl rfl (d_crowd_List) rfl) ?_
    refine w_ (p_assign rfl rfl) ?_
    refine aw_nil ?_
    refine ac_seq ?_
    refine ac_reg ?_
    refine w_ (p_move rfl rfl) ?_
    refine w_ (p_nilCheck rfl rfl rfl) ?_
    refine w_ (p_fieldOw fa_108_2 rfl rfl) ?_
    refine a_storeOw 0 Tryz.sizeOf22 rfl rfl rfl rfl rfl rfl rfl ?_
    refine aw_nil ?_
    refine ac_seq ?_
    refine ac_seq ?_
    refine ac_reg ?_
    refine w_ (p_move rfl rfl) ?_
    refine w_ (p_len (m := l.length) Tryz.runUnderlying22 rfl (rlen_pts _) rfl) ?_
    refine w_ (p_cmp rfl rfl rfl rfl) ?_
    refine aw_nil ?_
    refine ac_t rfl (decide_eq_true (by omega)) ?_
    refine ac_seq ?_
    refine ac_reg ?_
    refine w_ (p_assign rfl rfl) ?_
    refine aw_nil ?_
    obtain ⟨hP, hC⟩ := pairB_few q h2
    refine ac_leafNil 0 13 rfl rfl rfl ?_
    refine ac_ret ?_
    exact ⟨_, [], _, rvs_1 Tryz.results117 (rv_tmp rfl rfl), rfl, ⟨by rw [hC]; rfl, by rw [hP]; rfl⟩⟩
  · obtain ⟨a, b, m, hl2⟩ := two_of h2
    have ha : l[0]? = some a := by rw [hl2]; rfl
    have hb : l[1]? = some b := by rw [hl2]; rfl
    obtain ⟨hP, hC⟩ := pairB_many q hl2
    have hnn : l.length * l.length ≤ 1000 * 1000 := Nat.mul_le_mul hn hn
    have hpl : (pairsOf l).length ≤ l.length * l.length := pairsK_len _ _
    refine ac_seq ?_
    refine ac_reg ?_
    refine w_ (p_boxS rfl rfl rfl rfl) ?_
    refine w_ (p_assign rfl rfl) ?_
    refine aw_nil ?_
    refine ac_seq ?_
    refine ac_reg ?_
    refine w_ (p_move rfl rfl) ?_
    refine w_ (p_nilCheck rfl rfl rfl) ?_
    refine w_ (p_fieldOw fa_108_1 rfl rfl) ?_
    refine w_ (p_loadOw 0 Tryz.isAgg106 Tryz.sizeOf106 rfl rfl rfl rfl rfl) ?_
    refine w_ (p_call Tryz.func197 rfl rfl rfl rfl (d_crowd_List) rfl) ?_
    refine w_ (p_assign rfl rfl) ?_
    refine aw_nil ?_
    refine ac_seq ?_
    refine ac_reg ?_
    refine w_ (p_move rfl rfl) ?_
    refine w_ (p_nilCheck rfl rfl rfl) ?_
    refine w_ (p_fieldOw fa_108_2 rfl rfl) ?_
    refine a_storeOw 0 Tryz.sizeOf22 rfl rfl rfl rfl rfl rfl rfl ?_
    refine aw_nil ?_
    refine ac_seq ?_
    refine ac_seq ?_
    refine ac_reg ?_
    refine w_ (p_move rfl rfl) ?_
    refine w_ (p_len (m := l.length) Tryz.runUnderlying22 rfl (rlen_pts _) rfl) ?_
    refine w_ (p_cmp rfl rfl rfl rfl) ?_
    refine aw_nil ?_
    refine ac_f rfl (decide_eq_false (by omega)) ?_
    refine ac_skip ?_
    refine ac_seq ?_
    refine ac_drawAS mixed_ 8 6 2 76 76 6 22 [.slice none 0 0, .slice none 0 0, .bool false, .slice none 0 0, .int .i64 0] [pl a.c.x, pl a.c.y, sg a.c.d, mg a.c.d, .int .i64 a.id] [20, 21, 22, 23, 24, 25, 6, 7] [[], [0], [1], [], [3], [4], [], [], [2, 6]] [.one (pts l), .one (.sh [pl a.c.x, pl a.c.y, sg a.c.d, mg a.c.d, .int .i64 a.id]), .agg [pl a.c.x, pl a.c.y, sg a.c.d, mg a.c.d, .int .i64 a.id], .one (pts l), .one (.sh [pl b.c.x, pl b.c.y, sg b.c.d, mg b.c.d, .int .i64 b.id]), .agg [pl b.c.x, pl b.c.y, sg b.c.d, mg b.c.d, .int .i64 b.id], .un, .un] [(7, 76, [.slice none 0 0, .slice none 0 0, .bool false, .slice none 0 0, .int .i64 0])] [[.nils, .nils, .bool false, .nils, .int .i64 0]] rfl rfl rfl (by decide) ⟨rfl, trivial⟩ rfl rfl rfl rfl rfl rfl Tryz.sizeOf76 rfl rfl rfl ⟨p_move rfl rfl, p_index (0) Tryz.runUnderlying22 Tryz.sizeOf76 rfl rfl (rfl) (map_get ha) rfl rfl, p_loadSh Tryz.isAgg76 Tryz.sizeOf76 rfl rfl rfl rfl, p_move rfl rfl, p_index (1) Tryz.runUnderlying22 Tryz.sizeOf76 rfl rfl (rfl) (map_get hb) rfl rfl, p_loadSh Tryz.isAgg76 Tryz.sizeOf76 rfl rfl rfl rfl, al_alloc Tryz.zeroValue76 rfl, al_alloc Tryz.zeroValue76 rfl, trivial⟩ fun g1 => ⟨_, _, rfl, rfl, ?_⟩
    refine a_storeOw 1 Tryz.sizeOf76 rfl rfl rfl rfl rfl rfl rfl ?_
    refine aw_nil ?_
    refine ac_seq ?_
    refine ac_reg ?_
    refine w_ (p_move rfl rfl) ?_
    refine w_ (p_makeFuncO rfl rfl rfl rfl rfl rfl rfl) ?_
    refine aw_front 1 rfl ?_
    refine aw_front 1 rfl ?_
    refine a_calls (Bin := [.blk (g1 6) 76 [pl a.c.x, pl a.c.y, sg a.c.d, mg a.c.d, .int .i64 a.id], .blk (g1 7) 76 [pl b.c.x, pl b.c.y, sg b.c.d, mg b.c.d, .int .i64 b.id]]) Tryz.func198 rfl rfl rfl rfl (d_pairs (I := fun ps B => (∀ x ∈ ps, x.1 ∈ l ∧ x.2 ∈ l) ∧ B = pairS1 ((g1 6)) ((g1 7)) (nearest q (a, b) ps)) Tryz.func199 rfl rfl (by omega) (fun ps c d B hc hd hlen hB => ?_) ⟨fun _ hx => absurd hx (by simp), rfl⟩) rfl fun r_ B_ hr_ => ?_
    · obtain ⟨hps, rfl⟩ := hB
      have hg := near_good (q := q) hl2 hl hps
      have h1 := d_pair_build1 (ga := (g1 6)) (gb := (g1 7)) hg (hl c hc) (hl d hd) hq
      rw [← nearest_snoc] at h1
      intro Ob W vs Bi h2 h3 h4 h5
      refine (h1 Ob W vs Bi h2 h3 h4 h5).mono fun e w' ⟨v, r, Bo, Bq, e1, ⟨e2, e3⟩, e4⟩ => ⟨v, r, Bo, Bq, e1, ⟨e2, fun x hx => ?_, e3⟩, e4⟩
      rcases List.mem_append.1 hx with hx | hx
      · exact hps x hx
      · rw [List.mem_singleton.1 hx]; exact ⟨hc, hd⟩
    obtain ⟨rfl, -, rfl⟩ := hr_
    refine aw_nil ?_
    refine ac_seq ?_
    refine ac_reg ?_
    refine w_ (p_move rfl rfl) ?_
    refine w_ (p_loadOw 0 Tryz.isAgg76 Tryz.sizeOf76 rfl rfl rfl rfl rfl) ?_
    refine w_ (p_loadOw 1 Tryz.isAgg76 Tryz.sizeOf76 rfl rfl rfl rfl rfl) ?_
    refine w_ (p_lit Tryz.runUnderlying22 Tryz.sizeOf76 Tryz.zeroValue76 rfl rfl rfl rfl rfl rfl rfl rfl rfl rfl) ?_
    refine w_ (p_nilCheck rfl rfl rfl) ?_
    refine w_ (p_fieldOw fa_108_2 rfl rfl) ?_
    refine a_storeOw 2 Tryz.sizeOf22 rfl rfl rfl rfl rfl rfl rfl ?_
    refine aw_nil ?_
    refine ac_seq ?_
    refine ac_reg ?_
    refine a_alloc Tryz.zeroValue48 rfl rfl fun g2 => ?_
    refine aw_ownLeaf 0 0 166 7 rfl rfl rfl ?_
    refine aw_nil ?_
    refine ac_seq ?_
    refine ac_reg ?_
    refine w_ (p_move rfl rfl) ?_
    refine w_ (p_makeFuncO rfl rfl rfl rfl rfl rfl rfl) ?_
    refine aw_front 3 rfl ?_
    refine aw_front 3 rfl ?_
    refine aw_front 3 rfl ?_
    refine a_calls (Bin := [.row none 166 7 ([]), .blk (g1 6) 76 [pl ((((nearest q (a, b) (pairsOf l)).1).c).x), pl ((((nearest q (a, b) (pairsOf l)).1).c).y), sg ((((nearest q (a, b) (pairsOf l)).1).c).d), mg ((((nearest q (a, b) (pairsOf l)).1).c).d), .int .i64 (((nearest q (a, b) (pairsOf l)).1).id)], .blk (g1 7) 76 [pl ((((nearest q (a, b) (pairsOf l)).2).c).x), pl ((((nearest q (a, b) (pairsOf l)).2).c).y), sg ((((nearest q (a, b) (pairsOf l)).2).c).d), mg ((((nearest q (a, b) (pairsOf l)).2).c).d), .int .i64 (((nearest q (a, b) (pairsOf l)).2).id)], .blk g2 48 [.orow none 7 0 0]]) Tryz.func198 rfl rfl rfl rfl (d_pairs (I := fun ps B => (∀ x ∈ ps, x.1 ∈ l ∧ x.2 ∈ l) ∧ pairS2 ((g1 6)) ((g1 7)) g2 (nearest q (a, b) (pairsOf l)) (dists q (nearest q (a, b) (pairsOf l)) ps) B) Tryz.func200 rfl rfl (by omega) (fun ps c d B hc hd hlen hB => ?_) ⟨fun _ hx => absurd hx (by simp), none, rfl⟩) rfl fun r_ B_ hr_ => ?_
    · obtain ⟨hps, r, rfl⟩ := hB
      have hg := near_good (q := q) (ps := pairsOf l) hl2 hl (pairsK_mem l.length l)
      have hws : (dists q (nearest q (a, b) (pairsOf l)) ps).length ≤ 1000000 := Nat.le_trans (dists_len _ _ _) (by omega)
      have h1 := d_pair_build2 (ga := (g1 6)) (gb := (g1 7)) (go := g2) (r := r) hg (hl c hc) (hl d hd) hq hws
      rw [distS_eq] at h1
      intro Ob W vs Bi h2 h3 h4 h5
      refine (h1 Ob W vs Bi h2 h3 h4 h5).mono fun e w' ⟨v, r, Bo, Bq, e1, ⟨e2, r7, e3⟩, e4⟩ => ⟨v, r, Bo, Bq, e1, ⟨e2, fun x hx => ?_, r7, e3⟩, e4⟩
      rcases List.mem_append.1 hx with hx | hx
      · exact hps x hx
      · rw [List.mem_singleton.1 hx]; exact ⟨hc, hd⟩
    obtain ⟨rfl, -, r5, rfl⟩ := hr_
    refine aw_nil ?_
    refine ac_seq ?_
    refine ac_reg ?_
    refine w_ (p_loadOw 3 Tryz.isAgg48 Tryz.sizeOf48 rfl rfl rfl rfl rfl) ?_
    refine w_ (p_assign rfl rfl) ?_
    refine aw_nil ?_
    refine ac_pub (L2 := _) 0 [4] rfl (allAre1 rfl) (by rw [List.length_map]) (by rw [List.length_map]; exact Nat.lt_of_le_of_lt (dists_len _ _ _) (by omega)) rfl ?_
    refine ac_slotEq 4 (y := .one (cts (pairC q l))) rfl (by rw [hC]; rfl) ?_
    refine ac_ret ?_
    exact ⟨_, [0, 0, 0], _, rvs_1 Tryz.results117 (rv_tmp rfl rfl), rfl, ⟨rfl, by rw [hP]; rfl⟩⟩

set_option maxRecDepth 20000 in
theorem d_pair_New {b1 b2 : Bool} {l1 l2 : List Nat} {n d : Int} {zs : List (List LV)} {qs : List Pt} (h1 : IsInt (.bool b1) (u32r l1) n) (h2 : IsInt (.bool b2) (u32r l2) d) (hn : isz n ≤ 4294967295) (hd : isz d ≤ 4294967295) (hq : Qb (ratOf n d)) (hz : IsPts 4294967294 1073741824 zs qs) (hg : GoodP qs) (hl : qs.length ≤ 6) (he : (newL [] qs).2 = 0) : DoesB Tryz.prog 46 [.agg [.bool b1, u32r l1, .bool b2, u32r l2], .one (.row zs)] [] fun R B => ∃ g, R = .tup [.one (.ow g 0), .one (.int .i64 0)] ∧ B = [.blk g 108 [.bool true, pl ([-((ratOf n d)).num, (((ratOf n d)).den : Int)]), sg ((((ratOf n d))).num), mg ((((ratOf n d))).num), sg (((((ratOf n d))).den : Int)), mg (((((ratOf n d))).den : Int)), sg ((((ratOf n d))).num), mg ((((ratOf n d))).num), sg (((((ratOf n d))).den : Int)), mg (((((ratOf n d))).den : Int)), wts ((sortC (pairC ((ratOf n d)) ((newL [] qs).1)))), .int .i64 0, pts ((newL [] qs).1), pts ((pairB ((ratOf n d)) ((newL [] qs).1)))]] := by
  refine does_ (n := 32) Tryz.func46 rfl Tryz.ntmps46 rfl ?_
  have hgl : GoodP (newL [] qs).1 := fun a ha => hg a ((newL_mem qs [] ha).resolve_right (by simp))
  have hln := newL_len qs
  have hcl := pairC_le ((ratOf n d)) ((newL [] qs).1) (by omega)
  · skip
    refine ac_seq ?_
    refine ac_reg ?_
    refine w_ (p_boxS rfl rfl rfl rfl) ?_
    refine w_ (p_assign rfl rfl) ?_
    refine w_ (p_assign rfl rfl) ?_
    refine aw_nil ?_
    refine ac_seq ?_
    refine ac_reg ?_
    refine w_ (p_move rfl rfl) ?_
    refine w_ (p_call Tryz.func114 rfl rfl rfl rfl (d_crowd_New hz hl) rfl) ?_
    refine w_ (p_move rfl rfl) ?_
    refine w_ (p_extract rfl rfl rfl) ?_
    refine w_ (p_extract rfl rfl rfl) ?_
    refine a_alloc Tryz.zeroValue106 rfl rfl fun g1 => ?_
    refine a_storeOw 0 Tryz.sizeOf106 rfl rfl rfl rfl rfl rfl rfl ?_
    refine w_ (p_assign rfl rfl) ?_
    refine aw_nil ?_
    refine ac_seq ?_
    refine ac_seq ?_
    refine ac_reg ?_
    refine w_ (p_move rfl rfl) ?_
    refine w_ (p_cmp rfl rfl rfl rfl) ?_
    refine aw_nil ?_
    refine ac_f rfl (decide_eq_false (fun h => h he)) ?_
    refine ac_skip ?_
    refine ac_seq ?_
    refine ac_reg ?_
    refine w_ (p_loadOw 0 Tryz.isAgg106 Tryz.sizeOf106 rfl rfl rfl rfl rfl) ?_
    refine w_ (p_build (bd_108) rfl rfl rfl rfl) ?_
    refine a_box rfl rfl rfl fun g2 => ?_
    refine w_ (p_assign rfl rfl) ?_
    refine aw_nil ?_
    refine ac_seq ?_
    refine ac_reg ?_
    refine w_ (p_loadSh Tryz.isAgg57 Tryz.sizeOf57 rfl rfl rfl rfl) ?_
    refine w_ (p_call Tryz.func115 rfl rfl rfl rfl (d_alg_Of h1 h2 hn hd (hq.mono (by omega))) rfl) ?_
    refine a_alloc Tryz.zeroValue59 rfl rfl fun g3 => ?_
    refine a_storeOw 0 Tryz.sizeOf59 rfl rfl rfl rfl rfl rfl rfl ?_
    refine aw_nil ?_
    refine ac_seq ?_
    refine ac_drawM mixed_ 7 [23, 24, 25, 26, 27, 28, 29] [[], [0], [1], [], [], [], [4, 5]] [.one (.ow g2 0), .one (.ow g2 0), .one (.ow g2 0), .agg [pl ([-((ratOf n d)).num, (((ratOf n d)).den : Int)]), sg ((((ratOf n d))).num), mg ((((ratOf n d))).num), sg (((((ratOf n d))).den : Int)), mg (((((ratOf n d))).den : Int)), sg ((((ratOf n d))).num), mg ((((ratOf n d))).num), sg (((((ratOf n d))).den : Int)), mg (((((ratOf n d))).den : Int))], .one (.ow g2 0), .agg [pl ([-((ratOf n d)).num, (((ratOf n d)).den : Int)]), sg ((((ratOf n d))).num), mg ((((ratOf n d))).num), sg (((((ratOf n d))).den : Int)), mg (((((ratOf n d))).den : Int)), sg ((((ratOf n d))).num), mg ((((ratOf n d))).num), sg (((((ratOf n d))).den : Int)), mg (((((ratOf n d))).den : Int))], .un] 6 (fun u B => u = .one (cts ((pairC ((ratOf n d)) ((newL [] qs).1)))) ∧ B = [.blk g2 108 [.bool false, .nils, .bool false, .nils, .bool false, .nils, .bool false, .nils, .bool false, .nils, .nils, .int .i64 0, pts ((newL [] qs).1), pts ((pairB ((ratOf n d)) ((newL [] qs).1)))], .blk g3 59 [pl ([-((ratOf n d)).num, (((ratOf n d)).den : Int)]), sg ((((ratOf n d))).num), mg ((((ratOf n d))).num), sg (((((ratOf n d))).den : Int)), mg (((((ratOf n d))).den : Int)), sg ((((ratOf n d))).num), mg ((((ratOf n d))).num), sg (((((ratOf n d))).den : Int)), mg (((((ratOf n d))).den : Int))], .blk g1 106 [pts ((newL [] qs).1)]]) rfl rfl rfl rfl ⟨p_move rfl rfl, p_nilCheck rfl rfl rfl, p_fieldOw fa_108_0 rfl rfl, p_loadOw 0 Tryz.isAgg59 Tryz.sizeOf59 rfl rfl rfl rfl rfl, p_move rfl rfl, p_loadOw 0 Tryz.isAgg59 Tryz.sizeOf59 rfl rfl rfl rfl rfl, ?_, trivial⟩ ?_ ?_
    · refine am_of_aw fun N k_ => ?_
      refine aw_front 1 rfl ?_
      refine a_calls (Bin := [.blk g2 108 [.bool false, .nils, .bool false, .nils, .bool false, .nils, .bool false, .nils, .bool false, .nils, .nils, .int .i64 0, pts ((newL [] qs).1), .nils]]) Tryz.func117 rfl rfl rfl rfl (d_pair_build hq hgl (by omega)) rfl fun r_ B_ hr_ => ?_
      obtain ⟨rfl, rfl⟩ := hr_
      exact aw_nil (k_ _ _ ⟨rfl, rfl⟩)
    · rintro u_ B_ ⟨rfl, rfl⟩
      exact ⟨p_move rfl rfl, p_nilCheck rfl rfl rfl, p_fieldOw fa_108_0 rfl rfl, p_loadOw 1 Tryz.isAgg59 Tryz.sizeOf59 rfl rfl rfl rfl rfl, p_move rfl rfl, p_loadOw 1 Tryz.isAgg59 Tryz.sizeOf59 rfl rfl rfl rfl rfl, trivial, trivial⟩
    · rintro u_ B_ ⟨rfl, rfl⟩
      refine ⟨_, rfl, ?_⟩
      refine aw_blk (ys := [.bool false, .row ([]), .bool false, .row ([]), .bool false, .row ([]), .bool false, .row ([]), .bool false, .row ([]), wts ([]), .int .i64 0, pts ((newL [] qs).1), pts ((pairB ((ratOf n d)) ((newL [] qs).1)))]) 0 rfl rfl rfl ?_
      refine a_calls (Bin := [.blk g2 108 [.bool false, .row ([]), .bool false, .row ([]), .bool false, .row ([]), .bool false, .row ([]), .bool false, .row ([]), wts ([]), .int .i64 0, pts ((newL [] qs).1), pts ((pairB ((ratOf n d)) ((newL [] qs).1)))]]) Tryz.func116 rfl rfl rfl rfl (d_kin_BeginF (ws := []) (by simp) (pairC_pb _ hgl) (by omega) (hq.mono (by omega))) rfl fun r_ B_ hr_ => ?_
      obtain ⟨rfl, rfl⟩ := hr_
      refine aw_nil ?_
      refine ac_seq ?_
      refine ac_reg ?_
      refine w_ (p_move rfl rfl) ?_
      refine w_ (p_assign rfl rfl) ?_
      refine w_ (p_assign rfl rfl) ?_
      refine aw_nil ?_
      refine ac_ret ?_
      exact ⟨_, [1, 1], _, rvs_2 Tryz.results46 (rv_tmp rfl rfl) (rv_tmp rfl rfl), rfl, _, rfl, rfl⟩

theorem d_pair_NewE {b1 b2 : Bool} {l1 l2 : List Nat} {n d : Int} {zs : List (List LV)} {qs : List Pt} (h1 : IsInt (.bool b1) (u32r l1) n) (h2 : IsInt (.bool b2) (u32r l2) d) (hn : isz n ≤ 4294967295) (hd : isz d ≤ 4294967295) (hq : Qb (ratOf n d)) (hz : IsPts 4294967294 1073741824 zs qs) (hl : qs.length ≤ 6) (he : (newL [] qs).2 ≠ 0) : Does Tryz.prog 46 [.agg [.bool b1, u32r l1, .bool b2, u32r l2], .one (.row zs)] (.tup [.one (.nilp), .one (.int .i64 ((newL [] qs).2))]) := by
  refine does_ (n := 32) Tryz.func46 rfl Tryz.ntmps46 rfl ?_
  refine ac_seq ?_
  refine ac_reg ?_
  refine w_ (p_boxS rfl rfl rfl rfl) ?_
  refine w_ (p_assign rfl rfl) ?_
  refine w_ (p_assign rfl rfl) ?_
  refine aw_nil ?_
  refine ac_seq ?_
  refine ac_reg ?_
  refine w_ (p_move rfl rfl) ?_
  refine w_ (p_call Tryz.func114 rfl rfl rfl rfl (d_crowd_New hz hl) rfl) ?_
  refine w_ (p_move rfl rfl) ?_
  refine w_ (p_extract rfl rfl rfl) ?_
  refine w_ (p_extract rfl rfl rfl) ?_
  refine a_alloc Tryz.zeroValue106 rfl rfl fun g1 => ?_
  refine a_storeOw 0 Tryz.sizeOf106 rfl rfl rfl rfl rfl rfl rfl ?_
  refine w_ (p_assign rfl rfl) ?_
  refine aw_nil ?_
  refine ac_seq ?_
  refine ac_seq ?_
  refine ac_reg ?_
  refine w_ (p_move rfl rfl) ?_
  refine w_ (p_cmp rfl rfl rfl rfl) ?_
  refine aw_nil ?_
  refine ac_t rfl (decide_eq_true he) ?_
  refine ac_seq ?_
  refine ac_reg ?_
  refine w_ (p_move rfl rfl) ?_
  refine w_ (p_assign rfl rfl) ?_
  refine w_ (p_assign rfl rfl) ?_
  refine aw_nil ?_
  refine ac_ret ?_
  exact retB_2 Tryz.results46 (rv_tmp rfl rfl) (rv_tmp rfl rfl) (rfl)

theorem d_pair_NewF {b1 b2 : Bool} {l1 l2 : List Nat} {n d : Int} {zs : List (List LV)} {qs : List Pt} (h1 : IsInt (.bool b1) (u32r l1) n) (h2 : IsInt (.bool b2) (u32r l2) d) (hn : isz n ≤ 4294967295) (hd : isz d ≤ 4294967295) (hq : Qb (ratOf n d)) (hz : IsPts 4294967294 1073741824 zs qs) (hl : 6 < qs.length) : Does Tryz.prog 46 [.agg [.bool b1, u32r l1, .bool b2, u32r l2], .one (.row zs)] (.tup [.one (.nilp), .one (.int .i64 9)]) := by
  refine does_ (n := 32) Tryz.func46 rfl Tryz.ntmps46 rfl ?_
  refine ac_seq ?_
  refine ac_reg ?_
  refine w_ (p_boxS rfl rfl rfl rfl) ?_
  refine w_ (p_assign rfl rfl) ?_
  refine w_ (p_assign rfl rfl) ?_
  refine aw_nil ?_
  refine ac_seq ?_
  refine ac_reg ?_
  refine w_ (p_move rfl rfl) ?_
  refine w_ (p_call Tryz.func114 rfl rfl rfl rfl (d_crowd_NewFull hz hl) rfl) ?_
  refine w_ (p_move rfl rfl) ?_
  refine w_ (p_extract rfl rfl rfl) ?_
  refine w_ (p_extract rfl rfl rfl) ?_
  refine a_alloc Tryz.zeroValue106 rfl rfl fun g1 => ?_
  refine a_storeOw 0 Tryz.sizeOf106 rfl rfl rfl rfl rfl rfl rfl ?_
  refine w_ (p_assign rfl rfl) ?_
  refine aw_nil ?_
  refine ac_seq ?_
  refine ac_seq ?_
  refine ac_reg ?_
  refine w_ (p_move rfl rfl) ?_
  refine w_ (p_cmp (b := true) rfl rfl rfl rfl) ?_
  refine aw_nil ?_
  refine ac_t rfl (rfl) ?_
  refine ac_seq ?_
  refine ac_reg ?_
  refine w_ (p_move rfl rfl) ?_
  refine w_ (p_assign rfl rfl) ?_
  refine w_ (p_assign rfl rfl) ?_
  refine aw_nil ?_
  refine ac_ret ?_
  exact retB_2 Tryz.results46 (rv_tmp rfl rfl) (rv_tmp rfl rfl) (rfl)

set_option maxRecDepth 20000 in
theorem d_pair_with {g : Nat} {ev : Int} {ws : List Ct} {q : Rat} {y0 y1 : LV} {l : List Pt} (hq : Qb q) (hg : GoodP l) (hl : l.length ≤ 10) (hw : ws.length ≤ 1000000) : DoesB Tryz.prog 118 [.one (.ow g 0), .agg [pts l], .one (.int .i64 0)] [.blk g 108 [.bool true, pl ([-q.num, (q.den : Int)]), sg q.num, mg q.num, sg ((q.den : Int)), mg ((q.den : Int)), sg q.num, mg q.num, sg ((q.den : Int)), mg ((q.den : Int)), wts ws, .int .i64 ev, y0, y1]] fun r B => r = .one (.int .i64 0) ∧ B = [.blk g 108 [.bool true, pl ([-q.num, (q.den : Int)]), sg q.num, mg q.num, sg ((q.den : Int)), mg ((q.den : Int)), sg q.num, mg q.num, sg ((q.den : Int)), mg ((q.den : Int)), wts ((sortC (pairC q l))), .int .i64 ev, pts l, pts ((pairB q l))]] := by
  refine does_ (n := 27) Tryz.func118 rfl Tryz.ntmps118 rfl ?_
  have hcl := pairC_le q l (by omega)
  · skip
    refine ac_seq ?_
    refine ac_reg ?_
    refine w_ (p_boxS rfl rfl rfl rfl) ?_
    refine w_ (p_assign rfl rfl) ?_
    refine aw_nil ?_
    refine ac_seq ?_
    refine ac_seq ?_
    refine ac_reg ?_
    refine w_ (p_move rfl rfl) ?_
    refine w_ (p_cmp (b := false) rfl rfl rfl rfl) ?_
    refine aw_nil ?_
    refine ac_f rfl (rfl) ?_
    refine ac_skip ?_
    refine ac_seq ?_
    refine ac_reg ?_
    refine w_ (p_move rfl rfl) ?_
    refine w_ (p_loadSh Tryz.isAgg106 Tryz.sizeOf106 rfl rfl rfl rfl) ?_
    refine w_ (p_nilCheck rfl rfl rfl) ?_
    refine w_ (p_fieldOw fa_108_1 rfl rfl) ?_
    refine a_storeOw 0 Tryz.sizeOf106 rfl rfl rfl rfl rfl rfl rfl ?_
    refine aw_nil ?_
    refine ac_seq ?_
    refine ac_reg ?_
    refine w_ (p_move rfl rfl) ?_
    refine w_ (p_nilCheck rfl rfl rfl) ?_
    refine w_ (p_fieldOw fa_108_0 rfl rfl) ?_
    refine a_calls (Bin := [.blk g 108 [.bool true, pl ([-q.num, (q.den : Int)]), sg q.num, mg q.num, sg ((q.den : Int)), mg ((q.den : Int)), sg q.num, mg q.num, sg ((q.den : Int)), mg ((q.den : Int)), wts ws, .int .i64 ev, pts l, y1]]) Tryz.func202 rfl rfl rfl rfl (d_kin_Now (hq.mono (by omega))) rfl fun r_ B_ hr_ => ?_
    obtain ⟨rfl, rfl⟩ := hr_
    refine a_alloc Tryz.zeroValue59 rfl rfl fun g1 => ?_
    refine a_storeOw 0 Tryz.sizeOf59 rfl rfl rfl rfl rfl rfl rfl ?_
    refine aw_nil ?_
    refine ac_seq ?_
    refine ac_drawM mixed_ 7 [19, 20, 21, 22, 23, 24, 25] [[], [0], [1], [], [], [], [4, 5]] [.one (.ow g 0), .one (.ow g 0), .one (.ow g 0), .agg [pl ([-q.num, (q.den : Int)]), sg q.num, mg q.num, sg ((q.den : Int)), mg ((q.den : Int)), sg q.num, mg q.num, sg ((q.den : Int)), mg ((q.den : Int))], .one (.ow g 0), .agg [pl ([-q.num, (q.den : Int)]), sg q.num, mg q.num, sg ((q.den : Int)), mg ((q.den : Int)), sg q.num, mg q.num, sg ((q.den : Int)), mg ((q.den : Int))], .un] 6 (fun u B => u = .one (cts ((pairC q l))) ∧ B = [.blk g 108 [.bool true, pl ([-q.num, (q.den : Int)]), sg q.num, mg q.num, sg ((q.den : Int)), mg ((q.den : Int)), sg q.num, mg q.num, sg ((q.den : Int)), mg ((q.den : Int)), wts ws, .int .i64 ev, pts l, pts ((pairB q l))], .blk g1 59 [pl ([-q.num, (q.den : Int)]), sg q.num, mg q.num, sg ((q.den : Int)), mg ((q.den : Int)), sg q.num, mg q.num, sg ((q.den : Int)), mg ((q.den : Int))]]) rfl rfl rfl rfl ⟨p_move rfl rfl, p_nilCheck rfl rfl rfl, p_fieldOw fa_108_0 rfl rfl, p_loadOw 0 Tryz.isAgg59 Tryz.sizeOf59 rfl rfl rfl rfl rfl, p_move rfl rfl, p_loadOw 0 Tryz.isAgg59 Tryz.sizeOf59 rfl rfl rfl rfl rfl, ?_, trivial⟩ ?_ ?_
    · refine am_of_aw fun N k_ => ?_
      refine aw_front 1 rfl ?_
      refine a_calls (Bin := [.blk g 108 [.bool true, pl ([-q.num, (q.den : Int)]), sg q.num, mg q.num, sg ((q.den : Int)), mg ((q.den : Int)), sg q.num, mg q.num, sg ((q.den : Int)), mg ((q.den : Int)), wts ws, .int .i64 ev, pts l, y1]]) Tryz.func117 rfl rfl rfl rfl (d_pair_build hq hg (by omega)) rfl fun r_ B_ hr_ => ?_
      obtain ⟨rfl, rfl⟩ := hr_
      exact aw_nil (k_ _ _ ⟨rfl, rfl⟩)
    · rintro u_ B_ ⟨rfl, rfl⟩
      exact ⟨p_move rfl rfl, p_nilCheck rfl rfl rfl, p_fieldOw fa_108_0 rfl rfl, p_loadOw 1 Tryz.isAgg59 Tryz.sizeOf59 rfl rfl rfl rfl rfl, p_move rfl rfl, p_loadOw 1 Tryz.isAgg59 Tryz.sizeOf59 rfl rfl rfl rfl rfl, trivial, trivial⟩
    · rintro u_ B_ ⟨rfl, rfl⟩
      refine ⟨_, rfl, ?_⟩
      refine a_calls (Bin := [.blk g 108 [.bool true, pl ([-q.num, (q.den : Int)]), sg q.num, mg q.num, sg ((q.den : Int)), mg ((q.den : Int)), sg q.num, mg q.num, sg ((q.den : Int)), mg ((q.den : Int)), wts ws, .int .i64 ev, pts l, pts ((pairB q l))]]) Tryz.func116 rfl rfl rfl rfl (d_kin_BeginT (hq.mono (by omega)) hw (pairC_pb _ hg) (by omega) (hq.mono (by omega))) rfl fun r_ B_ hr_ => ?_
      obtain ⟨rfl, rfl⟩ := hr_
      refine aw_nil ?_
      refine ac_seq ?_
      refine ac_reg ?_
      refine w_ (p_assign rfl rfl) ?_
      refine aw_nil ?_
      refine ac_ret ?_
      exact ⟨_, [1], _, rvs_1 Tryz.results118 (rv_tmp rfl rfl), rfl, ⟨rfl, rfl⟩⟩

theorem d_pair_withE {g T : Nat} {ys : List LV} {l : List Pt} {e : Int} (he : e ≠ 0) : DoesB Tryz.prog 118 [.one (.ow g 0), .agg [pts l], .one (.int .i64 e)] [.blk g T (ys)] fun r B => r = .one (.int .i64 e) ∧ B = [.blk g T (ys)] := by
  refine does_ (n := 27) Tryz.func118 rfl Tryz.ntmps118 rfl ?_
  refine ac_seq ?_
  refine ac_reg ?_
  refine w_ (p_boxS rfl rfl rfl rfl) ?_
  refine w_ (p_assign rfl rfl) ?_
  refine aw_nil ?_
  refine ac_seq ?_
  refine ac_seq ?_
  refine ac_reg ?_
  refine w_ (p_move rfl rfl) ?_
  refine w_ (p_cmp rfl rfl rfl rfl) ?_
  refine aw_nil ?_
  refine ac_t rfl (decide_eq_true he) ?_
  refine ac_seq ?_
  refine ac_reg ?_
  refine w_ (p_move rfl rfl) ?_
  refine w_ (p_assign rfl rfl) ?_
  refine aw_nil ?_
  refine ac_ret ?_
  exact ⟨_, [], _, rvs_1 Tryz.results118 (rv_tmp rfl rfl), rfl, ⟨rfl, rfl⟩⟩

set_option maxRecDepth 20000 in
theorem d_pair_Put {g : Nat} {ev : Int} {ws : List Ct} {q : Rat} {y1 : LV} {lx ly : List (List LV)} {px py : List Int} {b : Bool} {ll : List Nat} {d id : Int} {l : List Pt} (hx : IsInts lx px) (hy : IsInts ly py) (hd : IsInt (.bool b) (u32r ll) d) (hk : Cs 4294967294 1073741824 (Crv.mk px py d)) (hq : Qb q) (hg : GoodP l) (hl : l.length ≤ 9) (hw : ws.length ≤ 1000000) (hp : Nml (Pt.mk (Crv.norm (Crv.mk px py d)) id).c ∧ Cb (Pt.mk (Crv.norm (Crv.mk px py d)) id).c) (he : putE l (Pt.mk (Crv.norm (Crv.mk px py d)) id) = 0) : DoesB Tryz.prog 47 [.one (.ow g 0), .agg [.row lx, .row ly, .bool b, u32r ll, .int .i64 id]] [.blk g 108 [.bool true, pl ([-q.num, (q.den : Int)]), sg q.num, mg q.num, sg ((q.den : Int)), mg ((q.den : Int)), sg q.num, mg q.num, sg ((q.den : Int)), mg ((q.den : Int)), wts ws, .int .i64 ev, pts l, y1]] fun r B => r = .one (.int .i64 0) ∧ B = [.blk g 108 [.bool true, pl ([-q.num, (q.den : Int)]), sg q.num, mg q.num, sg ((q.den : Int)), mg ((q.den : Int)), sg q.num, mg q.num, sg ((q.den : Int)), mg ((q.den : Int)), wts ((sortC (pairC q ((put l (Pt.mk (Crv.norm (Crv.mk px py d)) id)))))), .int .i64 ev, pts ((put l (Pt.mk (Crv.norm (Crv.mk px py d)) id))), pts ((pairB q ((put l (Pt.mk (Crv.norm (Crv.mk px py d)) id)))))]] := by
  refine does_ (n := 15) Tryz.func47 rfl Tryz.ntmps47 rfl ?_
  refine ac_seq ?_
  refine ac_reg ?_
  refine w_ (p_boxS rfl rfl rfl rfl) ?_
  refine w_ (p_assign rfl rfl) ?_
  refine aw_nil ?_
  refine ac_seq ?_
  refine ac_draw mixed_ 9 [5, 6, 7, 8, 9, 10, 11, 12, 13] [[], [], [1], [2], [3], [], [4, 5], [6], [6]] [.one (.ow g 0), .one (.ow g 0), .one (.ow g 0), .one (.ow g 12), .agg [pts l], .agg [.row lx, .row ly, .bool b, u32r ll, .int .i64 id], .tup [.agg [pts ((if putE l (Pt.mk (Crv.norm (Crv.mk px py d)) id) = 0 then put l (Pt.mk (Crv.norm (Crv.mk px py d)) id) else l))], .one (.int .i64 (putE l (Pt.mk (Crv.norm (Crv.mk px py d)) id)))], .agg [pts ((if putE l (Pt.mk (Crv.norm (Crv.mk px py d)) id) = 0 then put l (Pt.mk (Crv.norm (Crv.mk px py d)) id) else l))], .one (.int .i64 (putE l (Pt.mk (Crv.norm (Crv.mk px py d)) id)))] rfl rfl rfl ⟨p_move rfl rfl, p_move rfl rfl, p_nilCheck rfl rfl rfl, p_fieldOw fa_108_1 rfl rfl, p_loadOw 0 Tryz.isAgg106 Tryz.sizeOf106 rfl rfl rfl rfl rfl, p_loadSh Tryz.isAgg76 Tryz.sizeOf76 rfl rfl rfl rfl, p_call Tryz.func119 rfl rfl rfl rfl (d_crowd_Put hx hy hd (hk) (by omega)) rfl, p_extract rfl rfl rfl, p_extract rfl rfl rfl, trivial⟩ rfl ?_
  refine aw_slotEq 12 (y := .agg [pts (put l (Pt.mk (Crv.norm (Crv.mk px py d)) id))]) rfl (by rw [if_pos he]) ?_
  refine aw_slotEq 13 (y := .one (.int .i64 0)) rfl (by rw [he]) ?_
  refine a_calls (Bin := [.blk g 108 [.bool true, pl ([-q.num, (q.den : Int)]), sg q.num, mg q.num, sg ((q.den : Int)), mg ((q.den : Int)), sg q.num, mg q.num, sg ((q.den : Int)), mg ((q.den : Int)), wts ws, .int .i64 ev, pts l, y1]]) Tryz.func118 rfl rfl rfl rfl (d_pair_with hq (fun x hx_ => (put_mem hx_).elim (fun e => e ▸ hp) (hg x)) (by rw [put_len]; omega) hw) rfl fun r_ B_ hr_ => ?_
  obtain ⟨rfl, rfl⟩ := hr_
  refine w_ (p_assign rfl rfl) ?_
  refine aw_nil ?_
  refine ac_ret ?_
  exact ⟨_, [], _, rvs_1 Tryz.results47 (rv_tmp rfl rfl), rfl, ⟨rfl, rfl⟩⟩

set_option maxRecDepth 20000 in
theorem d_pair_PutE {g : Nat} {ev : Int} {ws : List Ct} {q : Rat} {y1 : LV} {lx ly : List (List LV)} {px py : List Int} {b : Bool} {ll : List Nat} {d id : Int} {l : List Pt} (hx : IsInts lx px) (hy : IsInts ly py) (hd : IsInt (.bool b) (u32r ll) d) (hk : Cs 4294967294 1073741824 (Crv.mk px py d)) (hl : l.length ≤ 999) (he : putE l (Pt.mk (Crv.norm (Crv.mk px py d)) id) ≠ 0) : DoesB Tryz.prog 47 [.one (.ow g 0), .agg [.row lx, .row ly, .bool b, u32r ll, .int .i64 id]] [.blk g 108 [.bool true, pl ([-q.num, (q.den : Int)]), sg q.num, mg q.num, sg ((q.den : Int)), mg ((q.den : Int)), sg q.num, mg q.num, sg ((q.den : Int)), mg ((q.den : Int)), wts ws, .int .i64 ev, pts l, y1]] fun r B => r = .one (.int .i64 ((putE l (Pt.mk (Crv.norm (Crv.mk px py d)) id)))) ∧ B = [.blk g 108 [.bool true, pl ([-q.num, (q.den : Int)]), sg q.num, mg q.num, sg ((q.den : Int)), mg ((q.den : Int)), sg q.num, mg q.num, sg ((q.den : Int)), mg ((q.den : Int)), wts ws, .int .i64 ev, pts l, y1]] := by
  refine does_ (n := 15) Tryz.func47 rfl Tryz.ntmps47 rfl ?_
  refine ac_seq ?_
  refine ac_reg ?_
  refine w_ (p_boxS rfl rfl rfl rfl) ?_
  refine w_ (p_assign rfl rfl) ?_
  refine aw_nil ?_
  refine ac_seq ?_
  refine ac_draw mixed_ 9 [5, 6, 7, 8, 9, 10, 11, 12, 13] [[], [], [1], [2], [3], [], [4, 5], [6], [6]] [.one (.ow g 0), .one (.ow g 0), .one (.ow g 0), .one (.ow g 12), .agg [pts l], .agg [.row lx, .row ly, .bool b, u32r ll, .int .i64 id], .tup [.agg [pts ((if putE l (Pt.mk (Crv.norm (Crv.mk px py d)) id) = 0 then put l (Pt.mk (Crv.norm (Crv.mk px py d)) id) else l))], .one (.int .i64 (putE l (Pt.mk (Crv.norm (Crv.mk px py d)) id)))], .agg [pts ((if putE l (Pt.mk (Crv.norm (Crv.mk px py d)) id) = 0 then put l (Pt.mk (Crv.norm (Crv.mk px py d)) id) else l))], .one (.int .i64 (putE l (Pt.mk (Crv.norm (Crv.mk px py d)) id)))] rfl rfl rfl ⟨p_move rfl rfl, p_move rfl rfl, p_nilCheck rfl rfl rfl, p_fieldOw fa_108_1 rfl rfl, p_loadOw 0 Tryz.isAgg106 Tryz.sizeOf106 rfl rfl rfl rfl rfl, p_loadSh Tryz.isAgg76 Tryz.sizeOf76 rfl rfl rfl rfl, p_call Tryz.func119 rfl rfl rfl rfl (d_crowd_Put hx hy hd (hk) (by omega)) rfl, p_extract rfl rfl rfl, p_extract rfl rfl rfl, trivial⟩ rfl ?_
  refine a_calls (Bin := [.blk g 108 [.bool true, pl ([-q.num, (q.den : Int)]), sg q.num, mg q.num, sg ((q.den : Int)), mg ((q.den : Int)), sg q.num, mg q.num, sg ((q.den : Int)), mg ((q.den : Int)), wts ws, .int .i64 ev, pts l, y1]]) Tryz.func118 rfl rfl rfl rfl (d_pair_withE he) rfl fun r_ B_ hr_ => ?_
  obtain ⟨rfl, rfl⟩ := hr_
  refine w_ (p_assign rfl rfl) ?_
  refine aw_nil ?_
  refine ac_ret ?_
  exact ⟨_, [], _, rvs_1 Tryz.results47 (rv_tmp rfl rfl), rfl, ⟨rfl, rfl⟩⟩

set_option maxRecDepth 20000 in
theorem d_pair_Points {g : Nat} {c0 c1 c2 c3 c4 c5 c6 c7 c8 c9 c10 c11 y1 : LV} {l : List Pt} (hok : ∀ p ∈ l, PtOk 4294967294 1073741824 p) (hl : l.length < 1073741824) : DoesB Tryz.prog 48 [.one (.ow g 0)] [.blk g 108 [c0, c1, c2, c3, c4, c5, c6, c7, c8, c9, c10, c11, pts l, y1]] fun r B => r = .one (pts l) ∧ B = [.blk g 108 [c0, c1, c2, c3, c4, c5, c6, c7, c8, c9, c10, c11, pts l, y1]] := by
  refine does_ (n := 8) Tryz.func48 rfl Tryz.ntmps48 rfl ?_
  refine ac_seq ?_
  refine ac_reg ?_
  refine w_ (p_assign rfl rfl) ?_
  refine aw_nil ?_
  refine ac_seq ?_
  refine ac_reg ?_
  refine w_ (p_move rfl rfl) ?_
  refine w_ (p_nilCheck rfl rfl rfl) ?_
  refine w_ (p_fieldOw fa_108_1 rfl rfl) ?_
  refine w_ (p_loadOw 0 Tryz.isAgg106 Tryz.sizeOf106 rfl rfl rfl rfl rfl) ?_
  refine w_ (p_call Tryz.func120 rfl rfl rfl rfl (d_crowd_All (hok) (hl)) rfl) ?_
  refine w_ (p_assign rfl rfl) ?_
  refine aw_nil ?_
  refine ac_ret ?_
  exact ⟨_, [], _, rvs_1 Tryz.results48 (rv_tmp rfl rfl), rfl, ⟨rfl, rfl⟩⟩

set_option maxRecDepth 20000 in
theorem d_pair_Ids {g : Nat} {c0 c1 c2 c3 c4 c5 c6 c7 c8 c9 c10 c11 y0 : LV} {u v : Pt} : DoesB Tryz.prog 35 [.one (.ow g 0)] [.blk g 108 [c0, c1, c2, c3, c4, c5, c6, c7, c8, c9, c10, c11, y0, pts ([u, v])]] fun r B => r = .tup [.one (.int .i64 u.id), .one (.int .i64 v.id), .one (.bool true)] ∧ B = [.blk g 108 [c0, c1, c2, c3, c4, c5, c6, c7, c8, c9, c10, c11, y0, pts ([u, v])]] := by
  refine does_ (n := 25) Tryz.func35 rfl Tryz.ntmps35 rfl ?_
  refine ac_seq ?_
  refine ac_reg ?_
  refine w_ (p_assign rfl rfl) ?_
  refine w_ (p_assign rfl rfl) ?_
  refine w_ (p_assign rfl rfl) ?_
  refine aw_nil ?_
  refine ac_seq ?_
  refine ac_seq ?_
  refine ac_reg ?_
  refine w_ (p_move rfl rfl) ?_
  refine w_ (p_nilCheck rfl rfl rfl) ?_
  refine w_ (p_fieldOw fa_108_2 rfl rfl) ?_
  refine w_ (p_loadOw 0 Tryz.isAgg22 Tryz.sizeOf22 rfl rfl rfl rfl rfl) ?_
  refine w_ (p_len (m := ([u, v]).length) Tryz.runUnderlying22 rfl (rlen_pts _) rfl) ?_
  refine w_ (p_cmp rfl rfl rfl rfl) ?_
  refine aw_nil ?_
  refine ac_f rfl (rfl) ?_
  refine ac_skip ?_
  refine ac_seq ?_
  refine ac_pick [0, 3, 4, 5, 6, 7, 8, 9, 10] rfl ?_
  refine ac_draw mixed_ 15 [11, 12, 13, 14, 15, 16, 17, 18, 19, 20, 21, 22, 23, 24, 2] [[], [0], [1], [2], [3], [4], [5], [], [7], [8], [9], [10], [11], [12], [6]] [.one (.ow g 0), .one (.ow g 0), .one (.ow g 13), .one (pts ([u, v])), .one (.sh [pl u.c.x, pl u.c.y, sg u.c.d, mg u.c.d, .int .i64 u.id]), .one (.sh [.int .i64 u.id]), .one (.int .i64 u.id), .one (.ow g 0), .one (.ow g 0), .one (.ow g 13), .one (pts ([u, v])), .one (.sh [pl v.c.x, pl v.c.y, sg v.c.d, mg v.c.d, .int .i64 v.id]), .one (.sh [.int .i64 v.id]), .one (.int .i64 v.id), .one (.int .i64 u.id)] rfl rfl rfl ⟨p_move rfl rfl, p_nilCheck rfl rfl rfl, p_fieldOw fa_108_2 rfl rfl, p_loadOw 0 Tryz.isAgg22 Tryz.sizeOf22 rfl rfl rfl rfl rfl, p_index (0) Tryz.runUnderlying22 Tryz.sizeOf76 rfl rfl (rfl) (map_get rfl) rfl rfl, p_fieldSh fa_76_1 rfl rfl rfl, p_loadSh Tryz.isAgg3 Tryz.sizeOf3 rfl rfl rfl rfl, p_move rfl rfl, p_nilCheck rfl rfl rfl, p_fieldOw fa_108_2 rfl rfl, p_loadOw 0 Tryz.isAgg22 Tryz.sizeOf22 rfl rfl rfl rfl rfl, p_index (1) Tryz.runUnderlying22 Tryz.sizeOf76 rfl rfl (rfl) (map_get rfl) rfl rfl, p_fieldSh fa_76_1 rfl rfl rfl, p_loadSh Tryz.isAgg3 Tryz.sizeOf3 rfl rfl rfl rfl, p_assign rfl rfl, trivial⟩ rfl ?_
  refine w_ (p_assign rfl rfl) ?_
  refine w_ (p_assign rfl rfl) ?_
  refine aw_nil ?_
  refine ac_ret ?_
  exact ⟨_, [], _, rvs_3 Tryz.results35 (rv_tmp rfl rfl) (rv_tmp rfl rfl) (rv_tmp rfl rfl), rfl, ⟨rfl, rfl⟩⟩

end Orr

namespace Orr
open Go Go.Proofs
theorem new_two {a b : Pt} (h : b.id < a.id) : newL [] [a, b] = ([b, a], 0) := by
  have h1 : ¬ a.id < b.id := by omega
  have h2 : ¬ a.id = b.id := by omega
  simp [newL, putE, has, pos, put, h, h1, h2]
theorem pair_two (q : Rat) (a b : Pt) : pairB q [a, b] = [a, b] ∧ pairC q [a, b] = [] := by
  have hp : pairsOf [a, b] = [(a, b)] := rfl
  have hn : nearest q (a, b) [(a, b)] = (a, b) := by
    rw [nearest_cons]
    rcases nearer_or q (a, b) (a, b) with e | e <;> rw [e] <;> rfl
  simp only [pairB, pairC, hp, hn, true_and]
  simp [dists, other]
theorem d_new_two {a b : Pt} (ha : Nml a.c ∧ Cb a.c) (hb : Nml b.c ∧ Cb b.c) (hab : b.id < a.id) : DoesB Tryz.prog 46 [.agg [.bool false, .row [], .bool false, .row []], .one (.row [ofPt a, ofPt b])] [] fun R B => ∃ g, R = .tup [.one (.ow g 0), .one (.int .i64 0)] ∧ B = [.blk g 108 [.bool true, pl ([-((ratOf 0 0)).num, (((ratOf 0 0)).den : Int)]), sg ((((ratOf 0 0))).num), mg ((((ratOf 0 0))).num), sg (((((ratOf 0 0))).den : Int)), mg (((((ratOf 0 0))).den : Int)), sg ((((ratOf 0 0))).num), mg ((((ratOf 0 0))).num), sg (((((ratOf 0 0))).den : Int)), mg (((((ratOf 0 0))).den : Int)), wts ([]), .int .i64 0, pts ([b, a]), pts ([b, a])]] := by
  have hg : GoodP [a, b] := by
    intro x hx
    simp only [List.mem_cons, List.not_mem_nil, or_false] at hx
    rcases hx with rfl | rfl
    · exact ha
    · exact hb
  have h := d_pair_New (l1 := []) (l2 := []) (zs := [ofPt a, ofPt b]) (qs := [a, b]) isInt_zero isInt_zero (by decide) (by decide) (qs_0.mono (by omega)) (isPts_n (l := [a, b]) (fun x hx => ⟨(hg x hx).1, (hg x hx).2.mono (by omega) (by omega)⟩)) hg (show 2 ≤ 6 by decide) (by rw [new_two hab])
  rw [new_two hab, (pair_two _ _ _).1, (pair_two _ _ _).2] at h
  exact h

set_option maxRecDepth 20000 in
theorem d_law21_wakes  : Does Tryz.prog 36 [] (.one (.bool true)) := by
  refine does_ (n := 45) Tryz.func36 rfl Tryz.ntmps36 rfl ?_
  refine ac_seq ?_
  refine ac_reg ?_
  refine w_ (p_assign rfl rfl) ?_
  refine aw_nil ?_
  refine ac_seq ?_
  refine ac_reg ?_
  refine w_ (p_build (bd_57) rfl rfl rfl rfl) ?_
  refine w_ (p_call Tryz.func45 rfl rfl rfl rfl (d_curve_Still (by decide) (by decide)) rfl) ?_
  refine w_ (p_build (bd_76) rfl rfl rfl rfl) ?_
  refine w_ (p_call Tryz.func45 rfl rfl rfl rfl (d_curve_Still (by decide) (by decide)) rfl) ?_
  refine w_ (p_build (bd_76) rfl rfl rfl rfl) ?_
  refine w_ (p_lit Tryz.runUnderlying22 Tryz.sizeOf76 Tryz.zeroValue76 rfl rfl rfl rfl rfl rfl rfl rfl rfl rfl) ?_
  refine a_calls (Bin := []) Tryz.func46 rfl rfl rfl rfl (d_new_two (a := (Pt.mk (still 0 0) 3)) (b := (Pt.mk (still 5 1) 2)) (good_still (by decide) (by decide)) (good_still (by decide) (by decide)) (by decide)) rfl fun r_ B_ hr_ => ?_
  obtain ⟨g, rfl, rfl⟩ := hr_
  refine w_ (p_move rfl rfl) ?_
  refine w_ (p_extract rfl rfl rfl) ?_
  refine w_ (p_extract rfl rfl rfl) ?_
  refine w_ (p_assign rfl rfl) ?_
  refine w_ (p_assign rfl rfl) ?_
  refine aw_nil ?_
  refine ac_seq ?_
  refine ac_seq ?_
  refine ac_reg ?_
  refine w_ (p_move rfl rfl) ?_
  refine w_ (p_cmp (b := false) rfl rfl rfl rfl) ?_
  refine w_ (p_move rfl rfl) ?_
  refine w_ ((p_grun rfl rfl (rfl) (p_move rfl rfl))) ?_
  refine w_ ((p_grun rfl rfl (rfl) (p_eqNil Tryz.runUnderlying84 rfl rfl rfl rfl rfl))) ?_
  refine w_ (p_pickF rfl (rfl) rfl rfl) ?_
  refine aw_nil ?_
  refine ac_f rfl (rfl) ?_
  refine ac_skip ?_
  refine ac_seq ?_
  refine ac_reg ?_
  refine w_ (p_move rfl rfl) ?_
  refine a_calls (Bin := [.blk g 108 [.bool true, pl ([-((ratOf 0 0)).num, (((ratOf 0 0)).den : Int)]), sg ((((ratOf 0 0))).num), mg ((((ratOf 0 0))).num), sg (((((ratOf 0 0))).den : Int)), mg (((((ratOf 0 0))).den : Int)), sg ((((ratOf 0 0))).num), mg ((((ratOf 0 0))).num), sg (((((ratOf 0 0))).den : Int)), mg (((((ratOf 0 0))).den : Int)), wts ([]), .int .i64 0, pts ([(Pt.mk (still 5 1) 2), (Pt.mk (still 0 0) 3)]), pts ([(Pt.mk (still 5 1) 2), (Pt.mk (still 0 0) 3)])]]) Tryz.func35 rfl rfl rfl rfl (d_pair_Ids (u := (Pt.mk (still 5 1) 2)) (v := (Pt.mk (still 0 0) 3))) rfl fun r_ B_ hr_ => ?_
  obtain ⟨rfl, rfl⟩ := hr_
  refine w_ (p_move rfl rfl) ?_
  refine w_ (p_extract rfl rfl rfl) ?_
  refine w_ (p_extract rfl rfl rfl) ?_
  refine w_ (p_extract rfl rfl rfl) ?_
  refine w_ (p_assign rfl rfl) ?_
  refine w_ (p_assign rfl rfl) ?_
  refine w_ (p_assign rfl rfl) ?_
  refine aw_nil ?_
  refine ac_seq ?_
  refine ac_reg ?_
  refine w_ (p_move rfl rfl) ?_
  refine w_ (p_move rfl rfl) ?_
  refine w_ ((p_grun rfl rfl (rfl) (p_move rfl rfl))) ?_
  refine w_ ((p_grun rfl rfl (rfl) (p_cmp (b := true) rfl rfl rfl rfl))) ?_
  refine w_ (p_pickT rfl (rfl) rfl rfl) ?_
  refine w_ (p_move rfl rfl) ?_
  refine w_ ((p_grun rfl rfl (rfl) (p_move rfl rfl))) ?_
  refine w_ ((p_grun rfl rfl (rfl) (p_cmp (b := true) rfl rfl rfl rfl))) ?_
  refine w_ (p_pickT rfl (rfl) rfl rfl) ?_
  refine w_ (p_move rfl rfl) ?_
  refine w_ ((p_grun rfl rfl (rfl) (p_move rfl rfl))) ?_
  refine w_ ((p_grun rfl rfl (rfl) (p_nilCheck rfl rfl rfl))) ?_
  refine w_ ((p_grun rfl rfl (rfl) (p_fieldOw fa_108_0 rfl rfl))) ?_
  refine aw_grun rfl rfl (rfl) ?_
  refine a_calls (Bin := [.blk g 108 [.bool true, pl ([-((ratOf 0 0)).num, (((ratOf 0 0)).den : Int)]), sg ((((ratOf 0 0))).num), mg ((((ratOf 0 0))).num), sg (((((ratOf 0 0))).den : Int)), mg (((((ratOf 0 0))).den : Int)), sg ((((ratOf 0 0))).num), mg ((((ratOf 0 0))).num), sg (((((ratOf 0 0))).den : Int)), mg (((((ratOf 0 0))).den : Int)), wts ([]), .int .i64 0, pts ([(Pt.mk (still 5 1) 2), (Pt.mk (still 0 0) 3)]), pts ([(Pt.mk (still 5 1) 2), (Pt.mk (still 0 0) 3)])]]) Tryz.func40 rfl rfl rfl rfl (d_kin_Certs (ws := []) (by simp) (by simp)) rfl fun r_ B_ hr_ => ?_
  obtain ⟨rfl, rfl⟩ := hr_
  refine w_ ((p_grun rfl rfl (rfl) (p_len (m := ([]).length) Tryz.runUnderlying48 rfl (rlen_cts _) rfl))) ?_
  refine w_ ((p_grun rfl rfl (rfl) (p_cmp rfl rfl rfl rfl))) ?_
  refine w_ (p_pickT rfl (rfl) rfl rfl) ?_
  refine w_ (p_assign rfl rfl) ?_
  refine aw_nil ?_
  refine ac_ret ?_
  exact retB_1 Tryz.results36 (rv_tmp rfl rfl) (rfl)

set_option maxRecDepth 20000 in
theorem d_law21_News {zs : List (List LV)} {n : Int} (hz : Named zs) (hn : -9223372036854775808 ≤ n ∧ n ≤ 9223372036854775807) : Does Tryz.prog 9 [.one (.row zs), .one (.int .i64 n)] (.one (.bool true)) := by
  refine does_ (n := 141) Tryz.func9 rfl Tryz.ntmps9 rfl ?_
  obtain ⟨N, hN, hN8⟩ : ∃ N : Nat, n % 9 = (N : Int) ∧ N ≤ 8 := ⟨(n % 9).toNat, by omega, by omega⟩
  · skip
    refine ac_seq ?_
    refine ac_reg ?_
    refine w_ (p_assign rfl rfl) ?_
    refine aw_nil ?_
    refine ac_seq ?_
    refine ac_reg ?_
    refine w_ (p_move rfl rfl) ?_
    refine w_ (p_call Tryz.func18 rfl rfl rfl rfl (d_keep_Within (hn) (by omega)) rfl) ?_
    refine w_ (p_assign rfl rfl) ?_
    refine aw_nil ?_
    refine ac_seq ?_
    refine ac_reg ?_
    refine w_ (p_assign rfl rfl) ?_
    refine aw_nil ?_
    refine ac_cut (fun L B => ∃ i r, i ≤ N ∧ (zs.length ≤ i ∨ i = N) ∧ L = [(1, .one (.int .i64 (((N : Nat) : Int)))), (5, .one (.orow r 5 0 i))] ∧ B = [.row r 76 5 ((npts zs i).map ofPt)]) ?_ ?_
    · skip
      refine ac_seq ?_
      refine ac_reg ?_
      refine w_ (p_assign rfl rfl) ?_
      refine aw_nil ?_
      refine ac_block ?_
      refine ac_slotEq 1 (y := .one (.int .i64 ((N : Nat) : Int))) rfl (by rw [hN]) ?_
      refine ac_ownNil [5] 76 5 rfl (allAre1 rfl) rfl ?_
      refine ac_pick [0, 1, 5, 6] rfl ?_
      refine ac_loop (fun m L B => ∃ i r, i ≤ zs.length ∧ i ≤ N ∧ m = N - i ∧ L = [(0, .one (.row zs)), (1, .one (.int .i64 (((N : Nat) : Int)))), (5, .one (.orow r 5 0 i)), (6, .one (.int .i64 (((i : Nat) : Int))))] ∧ B = [.row r 76 5 ((npts zs i).map ofPt)]) (m := _) ⟨0, none, Nat.zero_le _, Nat.zero_le _, rfl, rfl, rfl⟩ ?_
      rintro m L B ⟨i, r, hp0, hp1, hm, rfl, rfl⟩
      by_cases h1 : i < zs.length
      · by_cases h2 : i < N
        · have hii : i * i ≤ 8 * 8 := Nat.mul_le_mul (by omega) (by omega)
          obtain ⟨x0, x1, x2, x3, id, hze, hid⟩ := hz zs[i] (List.getElem_mem h1)
          have hzi : zs[i]? = some [x0, x1, x2, x3, .int .i64 id] := by rw [List.getElem?_eq_getElem h1, hze]
          have hpt := npt_in h1
          rw [hze] at hpt
          refine ac_seq ?_
          refine ac_seq ?_
          refine ac_reg ?_
          refine w_ (p_move rfl rfl) ?_
          refine w_ (p_move rfl rfl) ?_
          refine w_ (p_len (m := zs.length) Tryz.runUnderlying22 rfl (rfl) rfl) ?_
          refine w_ (p_cmp rfl rfl rfl rfl) ?_
          refine w_ (p_move rfl rfl) ?_
          refine w_ ((p_grun rfl rfl (decide_eq_true (by omega)) (p_move rfl rfl))) ?_
          refine w_ ((p_grun rfl rfl (decide_eq_true (by omega)) (p_move rfl rfl))) ?_
          refine w_ ((p_grun rfl rfl (decide_eq_true (by omega)) (p_cmp rfl rfl rfl rfl))) ?_
          refine w_ (p_pickT rfl (decide_eq_true (by omega)) rfl rfl) ?_
          refine aw_nil ?_
          refine ac_t rfl (decide_eq_true (by omega)) ?_
          refine ac_skip ?_
          refine ac_seq ?_
          refine ac_block ?_
          refine ac_draw mixed_ 14 [26, 27, 28, 29, 30, 31, 32, 33, 34, 35, 36, 37, 38, 39] [[], [], [], [], [2, 3], [1, 4], [], [], [6, 7], [8], [9], [10], [5, 11], [12]] [.one (.orow r 5 0 i), .one (.int .i64 (((i : Nat) : Int))), .one (.int .i64 (((i : Nat) : Int))), .one (.int .i64 (((i : Nat) : Int))), .one (.int .i64 (((i * i : Nat) : Int))), .agg [pl (((still (((i : Nat) : Int)) (((i * i : Nat) : Int)))).x), pl (((still (((i : Nat) : Int)) (((i * i : Nat) : Int)))).y), sg (((still (((i : Nat) : Int)) (((i * i : Nat) : Int)))).d), mg (((still (((i : Nat) : Int)) (((i * i : Nat) : Int)))).d)], .one (.row zs), .one (.int .i64 (((i : Nat) : Int))), .one (.sh [x0, x1, x2, x3, .int .i64 id]), .one (.sh [.int .i64 id]), .one (.int .i64 id), .one (.int .i64 ((id % 40))), .agg [pl (((still (((i : Nat) : Int)) (((i * i : Nat) : Int)))).x), pl (((still (((i : Nat) : Int)) (((i * i : Nat) : Int)))).y), sg (((still (((i : Nat) : Int)) (((i * i : Nat) : Int)))).d), mg (((still (((i : Nat) : Int)) (((i * i : Nat) : Int)))).d), .int .i64 ((id % 40))], .one (.row [[pl (((still (((i : Nat) : Int)) (((i * i : Nat) : Int)))).x), pl (((still (((i : Nat) : Int)) (((i * i : Nat) : Int)))).y), sg (((still (((i : Nat) : Int)) (((i * i : Nat) : Int)))).d), mg (((still (((i : Nat) : Int)) (((i * i : Nat) : Int)))).d), .int .i64 ((id % 40))]])] rfl rfl rfl ⟨p_move rfl rfl, p_move rfl rfl, p_move rfl rfl, p_move rfl rfl, p_mul (r := ((i * i : Nat) : Int)) rfl rfl (i64_is (by rw [Int.natCast_mul]) (by omega)) rfl, p_call Tryz.func45 rfl rfl rfl rfl (d_curve_Still (by omega) (by omega)) rfl, p_move rfl rfl, p_move rfl rfl, p_index (i) Tryz.runUnderlying22 Tryz.sizeOf76 rfl rfl (rfl) (hzi) rfl rfl, p_fieldSh fa_76_1 rfl rfl rfl, p_loadSh Tryz.isAgg3 Tryz.sizeOf3 rfl rfl rfl rfl, p_call Tryz.func18 rfl rfl rfl rfl (d_keep_Within (hid) (by omega)) rfl, p_build (bd_76) rfl rfl rfl rfl, p_lit Tryz.runUnderlying22 Tryz.sizeOf76 Tryz.zeroValue76 rfl rfl rfl rfl rfl rfl rfl rfl rfl rfl, trivial⟩ rfl ?_
          refine a_append (ls2 := (npts zs (i + 1)).map ofPt) (m2 := i + 1) 0 Tryz.runUnderlying22 Tryz.runUnderlying22 Tryz.typeInfo76 rfl rfl Tryz.sizeOf76 Tryz.zeroValue76 rfl rfl rfl rfl rfl rfl rfl (by rw [List.length_map, npts_len]; exact Nat.le_refl _) (one_w rfl) (one_f rfl) (by show _ + 1 < _; omega) (by rw [List.take_of_length_le (by rw [List.length_map, npts_len]; exact Nat.le_refl _), npts_snoc, hpt]; rfl) (rfl) fun r1 => ?_
          refine w_ (p_assign rfl rfl) ?_
          refine aw_nil ?_
          refine ac_reg ?_
          refine w_ (p_move rfl rfl) ?_
          refine w_ (p_add (r := ((i + 1 : Nat) : Int)) rfl rfl (i64_is (by omega) (by omega)) rfl) ?_
          refine w_ (p_assign rfl rfl) ?_
          refine aw_pick [0, 1, 5, 6] rfl ?_
          refine aw_nil ?_
          refine ⟨_, ?_, i + 1, r1, by omega, by omega, rfl, rfl, rfl⟩
          omega
        · skip
          refine ac_seq ?_
          refine ac_seq ?_
          refine ac_reg ?_
          refine w_ (p_move rfl rfl) ?_
          refine w_ (p_move rfl rfl) ?_
          refine w_ (p_len (m := zs.length) Tryz.runUnderlying22 rfl (rfl) rfl) ?_
          refine w_ (p_cmp rfl rfl rfl rfl) ?_
          refine w_ (p_move rfl rfl) ?_
          refine w_ ((p_grun rfl rfl (decide_eq_true (by omega)) (p_move rfl rfl))) ?_
          refine w_ ((p_grun rfl rfl (decide_eq_true (by omega)) (p_move rfl rfl))) ?_
          refine w_ ((p_grun rfl rfl (decide_eq_true (by omega)) (p_cmp rfl rfl rfl rfl))) ?_
          refine w_ (p_pickT rfl (decide_eq_true (by omega)) rfl rfl) ?_
          refine aw_nil ?_
          refine ac_f rfl (decide_eq_false (by omega)) ?_
          refine ac_pick [1, 5] rfl ?_
          refine ac_exit ?_
          repeat refine seqQ_exit ?_
          refine blkQ_here ?_
          exact ⟨i, r, by omega, by omega, rfl, rfl⟩
      · skip
        refine ac_seq ?_
        refine ac_seq ?_
        refine ac_reg ?_
        refine w_ (p_move rfl rfl) ?_
        refine w_ (p_move rfl rfl) ?_
        refine w_ (p_len (m := zs.length) Tryz.runUnderlying22 rfl (rfl) rfl) ?_
        refine w_ (p_cmp rfl rfl rfl rfl) ?_
        refine w_ (p_move rfl rfl) ?_
        refine w_ (p_gskip rfl rfl (decide_eq_false (by omega)) rfl) ?_
        refine w_ (p_gskip rfl rfl (decide_eq_false (by omega)) rfl) ?_
        refine w_ (p_gskip rfl rfl (decide_eq_false (by omega)) rfl) ?_
        refine w_ (p_pickF rfl (decide_eq_false (by omega)) rfl rfl) ?_
        refine aw_nil ?_
        refine ac_f rfl (rfl) ?_
        refine ac_pick [1, 5] rfl ?_
        refine ac_exit ?_
        repeat refine seqQ_exit ?_
        refine blkQ_here ?_
        exact ⟨i, r, by omega, by omega, rfl, rfl⟩
    · rintro L B ⟨i, r, hp0, hp1, rfl, rfl⟩
      skip
      · skip
        refine ac_cut (fun L B => L = [(5, .one (pts ((npts zs N))))] ∧ B = []) ?_ ?_
        · skip
          refine ac_seq ?_
          refine ac_reg ?_
          refine w_ (p_move rfl rfl) ?_
          refine w_ (p_len (m := i) Tryz.runUnderlying22 rfl (rfl) rfl) ?_
          refine w_ (p_assign rfl rfl) ?_
          refine aw_nil ?_
          refine ac_block ?_
          refine ac_pick [1, 5, 7] rfl ?_
          refine ac_loop (fun m L B => ∃ i r, i ≤ N ∧ (zs.length ≤ i ∨ i = N) ∧ m = N - i ∧ L = [(1, .one (.int .i64 (((N : Nat) : Int)))), (5, .one (.orow r 5 0 i)), (7, .one (.int .i64 (((i : Nat) : Int))))] ∧ B = [.row r 76 5 ((npts zs i).map ofPt)]) (m := _) ⟨i, r, hp0, hp1, rfl, rfl, rfl⟩ ?_
          rintro m L B ⟨i, r, hp0, hp1, hm, rfl, rfl⟩
          by_cases h2 : i < N
          · have hii : i * i ≤ 8 * 8 := Nat.mul_le_mul (by omega) (by omega)
            have hnm : (-((i : Nat) : Int)) * ((i : Nat) : Int) = -((i * i : Nat) : Int) := by rw [Int.neg_mul, Int.natCast_mul]
            have hpt := npt_out (zs := zs) (i := i) (by omega)
            refine ac_seq ?_
            refine ac_seq ?_
            refine ac_reg ?_
            refine w_ (p_move rfl rfl) ?_
            refine w_ (p_move rfl rfl) ?_
            refine w_ (p_cmp rfl rfl rfl rfl) ?_
            refine aw_nil ?_
            refine ac_t rfl (decide_eq_true (by omega)) ?_
            refine ac_skip ?_
            refine ac_seq ?_
            refine ac_block ?_
            refine ac_reg ?_
            refine w_ (p_move rfl rfl) ?_
            refine w_ (p_move rfl rfl) ?_
            refine w_ (p_move rfl rfl) ?_
            refine w_ (p_neg (r := (-(((i : Nat) : Int)))) rfl (i64_is rfl (by omega)) rfl) ?_
            refine w_ (p_move rfl rfl) ?_
            refine w_ (p_mul (r := (-((i * i : Nat) : Int))) rfl rfl (i64_is hnm (by omega)) rfl) ?_
            refine w_ (p_call Tryz.func45 rfl rfl rfl rfl (d_curve_Still (by omega) (by omega)) rfl) ?_
            refine w_ (p_move rfl rfl) ?_
            refine w_ (p_add (r := ((100 + i : Nat) : Int)) rfl rfl (i64_is (by omega) (by omega)) rfl) ?_
            refine w_ (p_build (bd_76) rfl rfl rfl rfl) ?_
            refine w_ (p_lit Tryz.runUnderlying22 Tryz.sizeOf76 Tryz.zeroValue76 rfl rfl rfl rfl rfl rfl rfl rfl rfl rfl) ?_
            refine a_append (ls2 := (npts zs (i + 1)).map ofPt) (m2 := i + 1) 0 Tryz.runUnderlying22 Tryz.runUnderlying22 Tryz.typeInfo76 rfl rfl Tryz.sizeOf76 Tryz.zeroValue76 rfl rfl rfl rfl rfl rfl rfl (by rw [List.length_map, npts_len]; exact Nat.le_refl _) (one_w rfl) (one_f rfl) (by show _ + 1 < _; omega) (by rw [List.take_of_length_le (by rw [List.length_map, npts_len]; exact Nat.le_refl _), npts_snoc, hpt]; rfl) (rfl) fun r2 => ?_
            refine w_ (p_assign rfl rfl) ?_
            refine aw_nil ?_
            refine ac_reg ?_
            refine w_ (p_move rfl rfl) ?_
            refine w_ (p_add (r := ((i + 1 : Nat) : Int)) rfl rfl (i64_is (by omega) (by omega)) rfl) ?_
            refine w_ (p_assign rfl rfl) ?_
            refine aw_pick [1, 5, 7] rfl ?_
            refine aw_nil ?_
            refine ⟨_, ?_, i + 1, r2, by omega, by omega, rfl, rfl, rfl⟩
            omega
          · have hi : i = N := by omega
            refine ac_pub (L2 := _) 0 [5] rfl (allAre1 rfl) (by rw [List.length_map, npts_len]) (by rw [List.length_map, npts_len]; omega) rfl ?_
            refine ac_slotEq 5 (y := .one (pts (npts zs N))) rfl (by rw [hi]; rfl) ?_
            refine ac_seq ?_
            refine ac_seq ?_
            refine ac_reg ?_
            refine w_ (p_move rfl rfl) ?_
            refine w_ (p_move rfl rfl) ?_
            refine w_ (p_cmp rfl rfl rfl rfl) ?_
            refine aw_nil ?_
            refine ac_f rfl (decide_eq_false (by omega)) ?_
            refine ac_pick [5] rfl ?_
            refine ac_exit ?_
            repeat refine seqQ_exit ?_
            refine blkQ_here ?_
            exact ⟨rfl, rfl⟩
        · rintro L B ⟨rfl, rfl⟩
          have hgood : GoodP (npts zs N) := npts_good hN8
          have hlen := npts_len zs N
          by_cases h6 : 6 < N
          · skip
            refine ac_seq ?_
            refine ac_reg ?_
            refine w_ (p_build (bd_57) rfl rfl rfl rfl) ?_
            refine w_ (p_move rfl rfl) ?_
            refine w_ (p_call Tryz.func46 rfl rfl rfl rfl (d_pair_NewF (l1 := []) (l2 := []) (qs := (npts zs N)) isInt_zero isInt_zero (by decide) (by decide) (qs_0.mono (by omega)) (isPts_n (fun x hx => ⟨(hgood x hx).1, (hgood x hx).2.mono (by omega) (by omega)⟩)) (by rw [npts_len]; omega)) rfl) ?_
            refine w_ (p_move rfl rfl) ?_
            refine w_ (p_extract rfl rfl rfl) ?_
            refine w_ (p_extract rfl rfl rfl) ?_
            refine w_ (p_assign rfl rfl) ?_
            refine w_ (p_assign rfl rfl) ?_
            refine aw_nil ?_
            refine ac_seq ?_
            refine ac_seq ?_
            refine ac_reg ?_
            refine w_ (p_move rfl rfl) ?_
            refine w_ (p_len (m := ((npts zs N)).length) Tryz.runUnderlying22 rfl (rlen_pts _) rfl) ?_
            refine w_ (p_cmp rfl rfl rfl rfl) ?_
            refine aw_nil ?_
            refine ac_t rfl (decide_eq_true (by omega)) ?_
            refine ac_seq ?_
            refine ac_reg ?_
            refine w_ (p_move rfl rfl) ?_
            refine w_ (p_cmp (b := true) rfl rfl rfl rfl) ?_
            refine w_ (p_move rfl rfl) ?_
            refine w_ ((p_grun rfl rfl (rfl) (p_move rfl rfl))) ?_
            refine w_ ((p_grun rfl rfl (rfl) (p_eqNil Tryz.runUnderlying84 rfl rfl rfl rfl rfl))) ?_
            refine w_ (p_pickT rfl (rfl) rfl rfl) ?_
            refine w_ (p_move rfl rfl) ?_
            refine w_ ((p_grun rfl rfl (rfl) (p_call Tryz.func36 rfl rfl rfl rfl (d_law21_wakes) rfl))) ?_
            refine w_ (p_pickT rfl (rfl) rfl rfl) ?_
            refine w_ (p_assign rfl rfl) ?_
            refine aw_nil ?_
            refine ac_ret ?_
            exact retB_1 Tryz.results9 (rv_tmp rfl rfl) (rfl)
          · rcases newL_news (qs := (npts zs N)) (by omega) with ⟨he0, hso, hln, hpw⟩ | ⟨he6, hpw⟩
            · skip
              refine ac_seq ?_
              refine ac_reg ?_
              refine w_ (p_build (bd_57) rfl rfl rfl rfl) ?_
              refine w_ (p_move rfl rfl) ?_
              refine a_calls (Bin := []) Tryz.func46 rfl rfl rfl rfl (d_pair_New (l1 := []) (l2 := []) (qs := (npts zs N)) isInt_zero isInt_zero (by decide) (by decide) (qs_0.mono (by omega)) (isPts_n (fun x hx => ⟨(hgood x hx).1, (hgood x hx).2.mono (by omega) (by omega)⟩)) hgood (by omega) he0) rfl fun r_ B_ hr_ => ?_
              obtain ⟨g, rfl, rfl⟩ := hr_
              refine w_ (p_move rfl rfl) ?_
              refine w_ (p_extract rfl rfl rfl) ?_
              refine w_ (p_extract rfl rfl rfl) ?_
              refine w_ (p_assign rfl rfl) ?_
              refine w_ (p_assign rfl rfl) ?_
              refine aw_nil ?_
              refine ac_seq ?_
              refine ac_seq ?_
              refine ac_reg ?_
              refine w_ (p_move rfl rfl) ?_
              refine w_ (p_len (m := ((npts zs N)).length) Tryz.runUnderlying22 rfl (rlen_pts _) rfl) ?_
              refine w_ (p_cmp rfl rfl rfl rfl) ?_
              refine aw_nil ?_
              refine ac_f rfl (decide_eq_false (by omega)) ?_
              refine ac_skip ?_
              refine ac_seq ?_
              refine ac_seq ?_
              refine ac_reg ?_
              refine w_ (p_move rfl rfl) ?_
              refine w_ (p_len (m := ((npts zs N)).length) Tryz.runUnderlying22 rfl (rlen_pts _) rfl) ?_
              refine w_ (p_move rfl rfl) ?_
              refine aw_nil ?_
              refine ac_block ?_
              refine ac_pick [5, 8, 9, 79, 80] rfl ?_
              refine ac_loop (fun m L B => ∃ i, i ≤ N ∧ (∀ k j, k < j → j < i → (npt zs k).id ≠ (npt zs j).id) ∧ m = N - i ∧ L = [(5, .one (pts ((npts zs N)))), (8, .one (.ow g 0)), (9, .one (.int .i64 0)), (79, .one (.int .i64 (((((npts zs N)).length : Nat) : Int)))), (80, .one (.int .i64 (((i : Nat) : Int))))] ∧ B = [.blk g 108 [.bool true, pl ([-((ratOf 0 0)).num, (((ratOf 0 0)).den : Int)]), sg ((((ratOf 0 0))).num), mg ((((ratOf 0 0))).num), sg (((((ratOf 0 0))).den : Int)), mg (((((ratOf 0 0))).den : Int)), sg ((((ratOf 0 0))).num), mg ((((ratOf 0 0))).num), sg (((((ratOf 0 0))).den : Int)), mg (((((ratOf 0 0))).den : Int)), wts ((sortC (pairC ((ratOf 0 0)) ((newL [] (npts zs N)).1)))), .int .i64 0, pts ((newL [] (npts zs N)).1), pts ((pairB ((ratOf 0 0)) ((newL [] (npts zs N)).1)))]]) (m := _) ⟨0, Nat.zero_le _, fun k j _ hj => absurd hj (Nat.not_lt_zero _), rfl, rfl, rfl⟩ ?_
              rintro m L B ⟨i, hp0, hp1, hm, rfl, rfl⟩
              by_cases h3 : i < N
              · skip
                refine ac_seq ?_
                refine ac_reg ?_
                refine w_ (p_cmp rfl rfl rfl rfl) ?_
                refine aw_nil ?_
                refine ac_seq ?_
                refine ac_t rfl (decide_eq_true (by omega)) ?_
                refine ac_skip ?_
                refine ac_seq ?_
                refine ac_block ?_
                refine ac_seq ?_
                refine ac_reg ?_
                refine w_ (p_move rfl rfl) ?_
                refine w_ (p_assign rfl rfl) ?_
                refine aw_nil ?_
                refine ac_seq ?_
                refine ac_reg ?_
                refine w_ (p_assign rfl rfl) ?_
                refine aw_nil ?_
                refine ac_block ?_
                refine ac_pick [5, 8, 9, 79, 80, 10, 11] rfl ?_
                refine ac_loop (fun m L B => ∃ k, k ≤ i ∧ (∀ a, a < k → (npt zs a).id ≠ (npt zs i).id) ∧ m = i - k ∧ L = [(5, .one (pts ((npts zs N)))), (8, .one (.ow g 0)), (9, .one (.int .i64 0)), (79, .one (.int .i64 (((((npts zs N)).length : Nat) : Int)))), (80, .one (.int .i64 (((i : Nat) : Int)))), (10, .one (.int .i64 (((i : Nat) : Int)))), (11, .one (.int .i64 (((k : Nat) : Int))))] ∧ B = [.blk g 108 [.bool true, pl ([-((ratOf 0 0)).num, (((ratOf 0 0)).den : Int)]), sg ((((ratOf 0 0))).num), mg ((((ratOf 0 0))).num), sg (((((ratOf 0 0))).den : Int)), mg (((((ratOf 0 0))).den : Int)), sg ((((ratOf 0 0))).num), mg ((((ratOf 0 0))).num), sg (((((ratOf 0 0))).den : Int)), mg (((((ratOf 0 0))).den : Int)), wts ((sortC (pairC ((ratOf 0 0)) ((newL [] (npts zs N)).1)))), .int .i64 0, pts ((newL [] (npts zs N)).1), pts ((pairB ((ratOf 0 0)) ((newL [] (npts zs N)).1)))]]) (m := _) ⟨0, Nat.zero_le _, fun a ha => absurd ha (Nat.not_lt_zero _), rfl, rfl, rfl⟩ ?_
                rintro m L B ⟨k, hq0, hq1, hm, rfl, rfl⟩
                by_cases h4 : k < i
                · by_cases hid : (npt zs k).id = (npt zs i).id
                  · exact absurd hid ((npts_pw zs N).1 hpw k i (by omega) (by omega))
                  · skip
                    refine ac_seq ?_
                    refine ac_seq ?_
                    refine ac_reg ?_
                    refine w_ (p_move rfl rfl) ?_
                    refine w_ (p_move rfl rfl) ?_
                    refine w_ (p_cmp rfl rfl rfl rfl) ?_
                    refine aw_nil ?_
                    refine ac_t rfl (decide_eq_true (by omega)) ?_
                    refine ac_skip ?_
                    refine ac_seq ?_
                    refine ac_block ?_
                    refine ac_seq ?_
                    refine ac_draw mixed_ 10 [88, 89, 90, 91, 92, 93, 94, 95, 96, 97] [[], [], [0, 1], [2], [3], [], [], [5, 6], [7], [8]] [.one (pts ((npts zs N))), .one (.int .i64 (((k : Nat) : Int))), .one (.sh [pl (((npt zs k).c).x), pl (((npt zs k).c).y), sg (((npt zs k).c).d), mg (((npt zs k).c).d), .int .i64 ((npt zs k).id)]), .one (.sh [.int .i64 ((npt zs k).id)]), .one (.int .i64 ((npt zs k).id)), .one (pts ((npts zs N))), .one (.int .i64 (((i : Nat) : Int))), .one (.sh [pl (((npt zs i).c).x), pl (((npt zs i).c).y), sg (((npt zs i).c).d), mg (((npt zs i).c).d), .int .i64 ((npt zs i).id)]), .one (.sh [.int .i64 ((npt zs i).id)]), .one (.int .i64 ((npt zs i).id))] rfl rfl rfl ⟨p_move rfl rfl, p_move rfl rfl, p_index (k) Tryz.runUnderlying22 Tryz.sizeOf76 rfl rfl (rfl) (map_get (npts_get (by omega))) rfl rfl, p_fieldSh fa_76_1 rfl rfl rfl, p_loadSh Tryz.isAgg3 Tryz.sizeOf3 rfl rfl rfl rfl, p_move rfl rfl, p_move rfl rfl, p_index (i) Tryz.runUnderlying22 Tryz.sizeOf76 rfl rfl (rfl) (map_get (npts_get h3)) rfl rfl, p_fieldSh fa_76_1 rfl rfl rfl, p_loadSh Tryz.isAgg3 Tryz.sizeOf3 rfl rfl rfl rfl, trivial⟩ rfl ?_
                    refine w_ (p_cmp rfl rfl rfl rfl) ?_
                    refine aw_nil ?_
                    refine ac_f rfl (decide_eq_false hid) ?_
                    refine ac_skip ?_
                    refine ac_reg ?_
                    refine w_ (p_move rfl rfl) ?_
                    refine w_ (p_add (r := ((k + 1 : Nat) : Int)) rfl rfl (i64_is (by omega) (by omega)) rfl) ?_
                    refine w_ (p_assign rfl rfl) ?_
                    refine aw_pick [5, 8, 9, 79, 80, 10, 11] rfl ?_
                    refine aw_nil ?_
                    refine ⟨_, ?_, k + 1, by omega, fun a ha => by
                      rcases Nat.lt_or_ge a k with hak | hak
                      · exact hq1 a hak
                      · have : a = k := by omega
                        subst this; exact hid, rfl, rfl, rfl⟩
                    omega
                · have hki : k = i := by omega
                  rw [hki] at hq1
                  refine ac_seq ?_
                  refine ac_seq ?_
                  refine ac_reg ?_
                  refine w_ (p_move rfl rfl) ?_
                  refine w_ (p_move rfl rfl) ?_
                  refine w_ (p_cmp rfl rfl rfl rfl) ?_
                  refine aw_nil ?_
                  refine ac_f rfl (decide_eq_false (by omega)) ?_
                  refine ac_exit ?_
                  repeat refine seqQ_exit ?_
                  refine blkQ_here ?_
                  refine ac_reg ?_
                  refine w_ (p_add (r := ((i + 1 : Nat) : Int)) rfl rfl (i64_is (by omega) (by omega)) rfl) ?_
                  refine w_ (p_move rfl rfl) ?_
                  refine aw_pick [5, 8, 9, 79, 80] rfl ?_
                  refine aw_nil ?_
                  refine ⟨_, ?_, i + 1, by omega, fun a b hab hb => by
                    rcases Nat.lt_or_ge b i with hbi | hbi
                    · exact hp1 a b hab hbi
                    · have hb2 : b = i := by omega
                      subst hb2; exact hq1 a (by omega), rfl, rfl, rfl⟩
                  omega
              · skip
                refine ac_seq ?_
                refine ac_reg ?_
                refine w_ (p_cmp rfl rfl rfl rfl) ?_
                refine aw_nil ?_
                refine ac_seq ?_
                refine ac_f rfl (decide_eq_false (by omega)) ?_
                refine ac_exit ?_
                repeat refine seqQ_exit ?_
                refine blkQ_here ?_
                refine ac_seq ?_
                refine ac_seq ?_
                refine ac_reg ?_
                refine w_ (p_move rfl rfl) ?_
                refine w_ (p_cmp (b := false) rfl rfl rfl rfl) ?_
                refine w_ (p_move rfl rfl) ?_
                refine w_ ((p_grun rfl rfl (rfl) (p_move rfl rfl))) ?_
                refine w_ ((p_grun rfl rfl (rfl) (p_eqNil Tryz.runUnderlying84 rfl rfl rfl rfl rfl))) ?_
                refine w_ (p_pickF rfl (rfl) rfl rfl) ?_
                refine aw_nil ?_
                refine ac_f rfl (rfl) ?_
                refine ac_skip ?_
                refine ac_seq ?_
                refine ac_seq ?_
                refine ac_reg ?_
                refine w_ (p_move rfl rfl) ?_
                refine w_ (p_len (m := ((npts zs N)).length) Tryz.runUnderlying22 rfl (rlen_pts _) rfl) ?_
                refine w_ (p_assign rfl rfl) ?_
                refine aw_nil ?_
                refine ac_block ?_
                refine ac_slotEq 12 (y := .one (.int .i64 ((N : Nat) : Int))) rfl (by rw [npts_len]) ?_
                refine ac_pick [8, 12] rfl ?_
                refine ac_loop (fun m L B => ∃ i l1 ws y1, i ≤ 6 ∧ l1.length = i ∧ SortedP l1 ∧ GoodP l1 ∧ (∀ p ∈ l1, p.id < ((200 + i : Nat) : Int)) ∧ ws.length ≤ 100000 ∧ m = 6 - i ∧ L = [(8, .one (.ow g 0)), (12, .one (.int .i64 (((i : Nat) : Int))))] ∧ B = [.blk g 108 [.bool true, pl ([-((ratOf 0 0)).num, (((ratOf 0 0)).den : Int)]), sg ((((ratOf 0 0))).num), mg ((((ratOf 0 0))).num), sg (((((ratOf 0 0))).den : Int)), mg (((((ratOf 0 0))).den : Int)), sg ((((ratOf 0 0))).num), mg ((((ratOf 0 0))).num), sg (((((ratOf 0 0))).den : Int)), mg (((((ratOf 0 0))).den : Int)), wts ws, .int .i64 0, pts l1, y1]]) (m := _) ⟨N, (newL [] (npts zs N)).1, (sortC (pairC (ratOf 0 0) (newL [] (npts zs N)).1)), _, by omega, by rw [hln, npts_len], hso, fun a ha => hgood a ((newL_mem _ [] ha).resolve_right (by simp)), fun p hp => by have := npts_id hN8 p ((newL_mem _ [] hp).resolve_right (by simp)); omega, by rw [sortC_len]; exact pairC_le (ratOf 0 0) (newL [] (npts zs N)).1 (by omega), rfl, rfl, rfl⟩ ?_
                rintro m L B ⟨i, l1, ws, y1, hs0, hs1, hs2, hs3, hs4, hs5, hm, rfl, rfl⟩
                by_cases h5 : i < 6
                · skip
                  refine ac_seq ?_
                  refine ac_seq ?_
                  refine ac_reg ?_
                  refine w_ (p_move rfl rfl) ?_
                  refine w_ (p_cmp rfl rfl rfl rfl) ?_
                  refine aw_nil ?_
                  refine ac_t rfl (decide_eq_true (by omega)) ?_
                  refine ac_skip ?_
                  refine ac_seq ?_
                  refine ac_block ?_
                  refine ac_seq ?_
                  refine ac_reg ?_
                  refine w_ (p_move rfl rfl) ?_
                  refine w_ (p_call Tryz.func45 rfl rfl rfl rfl (d_curve_Still (by decide) (by decide)) rfl) ?_
                  refine w_ (p_move rfl rfl) ?_
                  refine w_ (p_add (r := ((200 + i : Nat) : Int)) rfl rfl (i64_is (by omega) (by omega)) rfl) ?_
                  refine w_ (p_build (bd_76) rfl rfl rfl rfl) ?_
                  refine a_calls (Bin := [.blk g 108 [.bool true, pl ([-((ratOf 0 0)).num, (((ratOf 0 0)).den : Int)]), sg ((((ratOf 0 0))).num), mg ((((ratOf 0 0))).num), sg (((((ratOf 0 0))).den : Int)), mg (((((ratOf 0 0))).den : Int)), sg ((((ratOf 0 0))).num), mg ((((ratOf 0 0))).num), sg (((((ratOf 0 0))).den : Int)), mg (((((ratOf 0 0))).den : Int)), wts ws, .int .i64 0, pts l1, y1]]) Tryz.func47 rfl rfl rfl rfl (d_pair_Put (isInts_n _) (isInts_n _) (isInt_n _) ((good_still (x := 0) (y := 0) (by decide) (by decide)).2.mono (by omega) (by omega)) (qs_0.mono (by omega)) hs3 (by omega) (by omega) ⟨Crv.nml _, (good_still (x := 0) (y := 0) (by decide) (by decide)).2.norm (by decide)⟩ (put_new hs2 (by omega) hs4)) rfl fun r_ B_ hr_ => ?_
                  obtain ⟨rfl, rfl⟩ := hr_
                  refine w_ (p_cmp (b := false) rfl rfl rfl rfl) ?_
                  refine aw_nil ?_
                  refine ac_f rfl (rfl) ?_
                  refine ac_skip ?_
                  refine ac_reg ?_
                  refine w_ (p_move rfl rfl) ?_
                  refine w_ (p_add (r := ((i + 1 : Nat) : Int)) rfl rfl (i64_is (by omega) (by omega)) rfl) ?_
                  refine w_ (p_assign rfl rfl) ?_
                  refine aw_pick [8, 12] rfl ?_
                  refine aw_nil ?_
                  refine ⟨_, ?_, i + 1, put l1 (Pt.mk (Crv.norm (Crv.mk (still 0 0).x (still 0 0).y (still 0 0).d)) ((200 + i : Nat) : Int)), (sortC (pairC (ratOf 0 0) (put l1 (Pt.mk (Crv.norm (Crv.mk (still 0 0).x (still 0 0).y (still 0 0).d)) ((200 + i : Nat) : Int))))), _, by omega, by rw [put_len]; omega, put_sorted hs2 (has_new hs2 hs4), fun a ha => (put_mem ha).elim (fun e => e ▸ ⟨Crv.nml _, (good_still (x := 0) (y := 0) (by decide) (by decide)).2.norm (by decide)⟩) (hs3 a), fun p hp => (put_mem hp).elim (fun e => by rw [e]; show ((200 + i : Nat) : Int) < _; omega) (fun hp => by have := hs4 p hp; omega), by rw [sortC_len]; exact pairC_le (ratOf 0 0) (put l1 (Pt.mk (Crv.norm (Crv.mk (still 0 0).x (still 0 0).y (still 0 0).d)) ((200 + i : Nat) : Int))) (by rw [put_len]; omega), rfl, rfl, rfl⟩
                  omega
                · skip
                  refine ac_seq ?_
                  refine ac_seq ?_
                  refine ac_reg ?_
                  refine w_ (p_move rfl rfl) ?_
                  refine w_ (p_cmp rfl rfl rfl rfl) ?_
                  refine aw_nil ?_
                  refine ac_f rfl (decide_eq_false (by omega)) ?_
                  refine ac_exit ?_
                  repeat refine seqQ_exit ?_
                  refine blkQ_here ?_
                  refine ac_seq ?_
                  refine ac_reg ?_
                  refine w_ (p_move rfl rfl) ?_
                  refine w_ (p_build (bd_76) rfl rfl rfl rfl) ?_
                  refine a_calls (Bin := [.blk g 108 [.bool true, pl ([-((ratOf 0 0)).num, (((ratOf 0 0)).den : Int)]), sg ((((ratOf 0 0))).num), mg ((((ratOf 0 0))).num), sg (((((ratOf 0 0))).den : Int)), mg (((((ratOf 0 0))).den : Int)), sg ((((ratOf 0 0))).num), mg ((((ratOf 0 0))).num), sg (((((ratOf 0 0))).den : Int)), mg (((((ratOf 0 0))).den : Int)), wts ws, .int .i64 0, pts l1, y1]]) Tryz.func47 rfl rfl rfl rfl (by have h9 := put_full (c := Crv.norm (Crv.mk [] [] 0)) (x := 300) hs2 (by omega) (fun p hp => by have := hs4 p hp; omega); have h := d_pair_PutE (g := g) (ev := 0) (ws := ws) (q := ratOf 0 0) (y1 := y1) (l := l1) (id := 300) (ll := []) (lx := []) (ly := []) (isInts_n []) (isInts_n []) isInt_zero cs_nil (by omega) (by rw [h9]; decide); rw [h9] at h; exact h) rfl fun r_ B_ hr_ => ?_
                  obtain ⟨rfl, rfl⟩ := hr_
                  refine w_ (p_cmp (b := true) rfl rfl rfl rfl) ?_
                  refine w_ (p_move rfl rfl) ?_
                  refine w_ ((p_grun rfl rfl (rfl) (p_move rfl rfl))) ?_
                  refine aw_grun rfl rfl (rfl) ?_
                  refine a_calls (Bin := [.blk g 108 [.bool true, pl ([-((ratOf 0 0)).num, (((ratOf 0 0)).den : Int)]), sg ((((ratOf 0 0))).num), mg ((((ratOf 0 0))).num), sg (((((ratOf 0 0))).den : Int)), mg (((((ratOf 0 0))).den : Int)), sg ((((ratOf 0 0))).num), mg ((((ratOf 0 0))).num), sg (((((ratOf 0 0))).den : Int)), mg (((((ratOf 0 0))).den : Int)), wts ws, .int .i64 0, pts l1, y1]]) Tryz.func48 rfl rfl rfl rfl (d_pair_Points (fun p hp => ⟨(hs3 p hp).1, (hs3 p hp).2.mono (by omega) (by omega)⟩) (by omega)) rfl fun r_ B_ hr_ => ?_
                  obtain ⟨rfl, rfl⟩ := hr_
                  refine w_ ((p_grun rfl rfl (rfl) (p_len (m := l1.length) Tryz.runUnderlying22 rfl (rlen_pts _) rfl))) ?_
                  refine w_ ((p_grun rfl rfl (rfl) (p_cmp rfl rfl rfl rfl))) ?_
                  refine w_ (p_pickT rfl (rfl) rfl rfl) ?_
                  refine w_ (p_move rfl rfl) ?_
                  refine w_ ((p_grun rfl rfl (decide_eq_true (by omega)) (p_call Tryz.func36 rfl rfl rfl rfl (d_law21_wakes) rfl))) ?_
                  refine w_ (p_pickT rfl (decide_eq_true (by omega)) rfl rfl) ?_
                  refine w_ (p_assign rfl rfl) ?_
                  refine aw_nil ?_
                  refine ac_ret ?_
                  exact retB_1 Tryz.results9 (rv_tmp rfl rfl) (rfl)
            · skip
              refine ac_seq ?_
              refine ac_reg ?_
              refine w_ (p_build (bd_57) rfl rfl rfl rfl) ?_
              refine w_ (p_move rfl rfl) ?_
              refine w_ (p_call Tryz.func46 rfl rfl rfl rfl (by have h := d_pair_NewE (l1 := []) (l2 := []) (qs := (npts zs N)) isInt_zero isInt_zero (by decide) (by decide) (qs_0.mono (by omega)) (isPts_n (fun x hx => ⟨(hgood x hx).1, (hgood x hx).2.mono (by omega) (by omega)⟩)) (by rw [npts_len]; omega) (by omega); rw [he6] at h; exact h) rfl) ?_
              refine w_ (p_move rfl rfl) ?_
              refine w_ (p_extract rfl rfl rfl) ?_
              refine w_ (p_extract rfl rfl rfl) ?_
              refine w_ (p_assign rfl rfl) ?_
              refine w_ (p_assign rfl rfl) ?_
              refine aw_nil ?_
              refine ac_seq ?_
              refine ac_seq ?_
              refine ac_reg ?_
              refine w_ (p_move rfl rfl) ?_
              refine w_ (p_len (m := ((npts zs N)).length) Tryz.runUnderlying22 rfl (rlen_pts _) rfl) ?_
              refine w_ (p_cmp rfl rfl rfl rfl) ?_
              refine aw_nil ?_
              refine ac_f rfl (decide_eq_false (by omega)) ?_
              refine ac_skip ?_
              refine ac_seq ?_
              refine ac_seq ?_
              refine ac_reg ?_
              refine w_ (p_move rfl rfl) ?_
              refine w_ (p_len (m := ((npts zs N)).length) Tryz.runUnderlying22 rfl (rlen_pts _) rfl) ?_
              refine w_ (p_move rfl rfl) ?_
              refine aw_nil ?_
              refine ac_block ?_
              refine ac_pick [5, 8, 9, 79, 80] rfl ?_
              refine ac_loop (fun m L B => ∃ i, i ≤ N ∧ (∀ k j, k < j → j < i → (npt zs k).id ≠ (npt zs j).id) ∧ m = N - i ∧ L = [(5, .one (pts ((npts zs N)))), (8, .one (.nilp)), (9, .one (.int .i64 6)), (79, .one (.int .i64 (((((npts zs N)).length : Nat) : Int)))), (80, .one (.int .i64 (((i : Nat) : Int))))] ∧ B = []) (m := _) ⟨0, Nat.zero_le _, fun k j _ hj => absurd hj (Nat.not_lt_zero _), rfl, rfl, rfl⟩ ?_
              rintro m L B ⟨i, hp0, hp1, hm, rfl, rfl⟩
              by_cases h3 : i < N
              · skip
                refine ac_seq ?_
                refine ac_reg ?_
                refine w_ (p_cmp rfl rfl rfl rfl) ?_
                refine aw_nil ?_
                refine ac_seq ?_
                refine ac_t rfl (decide_eq_true (by omega)) ?_
                refine ac_skip ?_
                refine ac_seq ?_
                refine ac_block ?_
                refine ac_seq ?_
                refine ac_reg ?_
                refine w_ (p_move rfl rfl) ?_
                refine w_ (p_assign rfl rfl) ?_
                refine aw_nil ?_
                refine ac_seq ?_
                refine ac_reg ?_
                refine w_ (p_assign rfl rfl) ?_
                refine aw_nil ?_
                refine ac_block ?_
                refine ac_pick [5, 8, 9, 79, 80, 10, 11] rfl ?_
                refine ac_loop (fun m L B => ∃ k, k ≤ i ∧ (∀ a, a < k → (npt zs a).id ≠ (npt zs i).id) ∧ m = i - k ∧ L = [(5, .one (pts ((npts zs N)))), (8, .one (.nilp)), (9, .one (.int .i64 6)), (79, .one (.int .i64 (((((npts zs N)).length : Nat) : Int)))), (80, .one (.int .i64 (((i : Nat) : Int)))), (10, .one (.int .i64 (((i : Nat) : Int)))), (11, .one (.int .i64 (((k : Nat) : Int))))] ∧ B = []) (m := _) ⟨0, Nat.zero_le _, fun a ha => absurd ha (Nat.not_lt_zero _), rfl, rfl, rfl⟩ ?_
                rintro m L B ⟨k, hq0, hq1, hm, rfl, rfl⟩
                by_cases h4 : k < i
                · by_cases hid : (npt zs k).id = (npt zs i).id
                  · skip
                    refine ac_seq ?_
                    refine ac_seq ?_
                    refine ac_reg ?_
                    refine w_ (p_move rfl rfl) ?_
                    refine w_ (p_move rfl rfl) ?_
                    refine w_ (p_cmp rfl rfl rfl rfl) ?_
                    refine aw_nil ?_
                    refine ac_t rfl (decide_eq_true (by omega)) ?_
                    refine ac_skip ?_
                    refine ac_seq ?_
                    refine ac_block ?_
                    refine ac_seq ?_
                    refine ac_draw mixed_ 10 [88, 89, 90, 91, 92, 93, 94, 95, 96, 97] [[], [], [0, 1], [2], [3], [], [], [5, 6], [7], [8]] [.one (pts ((npts zs N))), .one (.int .i64 (((k : Nat) : Int))), .one (.sh [pl (((npt zs k).c).x), pl (((npt zs k).c).y), sg (((npt zs k).c).d), mg (((npt zs k).c).d), .int .i64 ((npt zs k).id)]), .one (.sh [.int .i64 ((npt zs k).id)]), .one (.int .i64 ((npt zs k).id)), .one (pts ((npts zs N))), .one (.int .i64 (((i : Nat) : Int))), .one (.sh [pl (((npt zs i).c).x), pl (((npt zs i).c).y), sg (((npt zs i).c).d), mg (((npt zs i).c).d), .int .i64 ((npt zs i).id)]), .one (.sh [.int .i64 ((npt zs i).id)]), .one (.int .i64 ((npt zs i).id))] rfl rfl rfl ⟨p_move rfl rfl, p_move rfl rfl, p_index (k) Tryz.runUnderlying22 Tryz.sizeOf76 rfl rfl (rfl) (map_get (npts_get (by omega))) rfl rfl, p_fieldSh fa_76_1 rfl rfl rfl, p_loadSh Tryz.isAgg3 Tryz.sizeOf3 rfl rfl rfl rfl, p_move rfl rfl, p_move rfl rfl, p_index (i) Tryz.runUnderlying22 Tryz.sizeOf76 rfl rfl (rfl) (map_get (npts_get h3)) rfl rfl, p_fieldSh fa_76_1 rfl rfl rfl, p_loadSh Tryz.isAgg3 Tryz.sizeOf3 rfl rfl rfl rfl, trivial⟩ rfl ?_
                    refine w_ (p_cmp rfl rfl rfl rfl) ?_
                    refine aw_nil ?_
                    refine ac_t rfl (decide_eq_true hid) ?_
                    refine ac_seq ?_
                    refine ac_reg ?_
                    refine w_ (p_move rfl rfl) ?_
                    refine w_ (p_cmp (b := true) rfl rfl rfl rfl) ?_
                    refine w_ (p_move rfl rfl) ?_
                    refine w_ ((p_grun rfl rfl (rfl) (p_move rfl rfl))) ?_
                    refine w_ ((p_grun rfl rfl (rfl) (p_eqNil Tryz.runUnderlying84 rfl rfl rfl rfl rfl))) ?_
                    refine w_ (p_pickT rfl (rfl) rfl rfl) ?_
                    refine w_ (p_move rfl rfl) ?_
                    refine w_ ((p_grun rfl rfl (rfl) (p_call Tryz.func36 rfl rfl rfl rfl (d_law21_wakes) rfl))) ?_
                    refine w_ (p_pickT rfl (rfl) rfl rfl) ?_
                    refine w_ (p_assign rfl rfl) ?_
                    refine aw_nil ?_
                    refine ac_ret ?_
                    exact retB_1 Tryz.results9 (rv_tmp rfl rfl) (rfl)
                  · skip
                    refine ac_seq ?_
                    refine ac_seq ?_
                    refine ac_reg ?_
                    refine w_ (p_move rfl rfl) ?_
                    refine w_ (p_move rfl rfl) ?_
                    refine w_ (p_cmp rfl rfl rfl rfl) ?_
                    refine aw_nil ?_
                    refine ac_t rfl (decide_eq_true (by omega)) ?_
                    refine ac_skip ?_
                    refine ac_seq ?_
                    refine ac_block ?_
                    refine ac_seq ?_
                    refine ac_draw mixed_ 10 [88, 89, 90, 91, 92, 93, 94, 95, 96, 97] [[], [], [0, 1], [2], [3], [], [], [5, 6], [7], [8]] [.one (pts ((npts zs N))), .one (.int .i64 (((k : Nat) : Int))), .one (.sh [pl (((npt zs k).c).x), pl (((npt zs k).c).y), sg (((npt zs k).c).d), mg (((npt zs k).c).d), .int .i64 ((npt zs k).id)]), .one (.sh [.int .i64 ((npt zs k).id)]), .one (.int .i64 ((npt zs k).id)), .one (pts ((npts zs N))), .one (.int .i64 (((i : Nat) : Int))), .one (.sh [pl (((npt zs i).c).x), pl (((npt zs i).c).y), sg (((npt zs i).c).d), mg (((npt zs i).c).d), .int .i64 ((npt zs i).id)]), .one (.sh [.int .i64 ((npt zs i).id)]), .one (.int .i64 ((npt zs i).id))] rfl rfl rfl ⟨p_move rfl rfl, p_move rfl rfl, p_index (k) Tryz.runUnderlying22 Tryz.sizeOf76 rfl rfl (rfl) (map_get (npts_get (by omega))) rfl rfl, p_fieldSh fa_76_1 rfl rfl rfl, p_loadSh Tryz.isAgg3 Tryz.sizeOf3 rfl rfl rfl rfl, p_move rfl rfl, p_move rfl rfl, p_index (i) Tryz.runUnderlying22 Tryz.sizeOf76 rfl rfl (rfl) (map_get (npts_get h3)) rfl rfl, p_fieldSh fa_76_1 rfl rfl rfl, p_loadSh Tryz.isAgg3 Tryz.sizeOf3 rfl rfl rfl rfl, trivial⟩ rfl ?_
                    refine w_ (p_cmp rfl rfl rfl rfl) ?_
                    refine aw_nil ?_
                    refine ac_f rfl (decide_eq_false hid) ?_
                    refine ac_skip ?_
                    refine ac_reg ?_
                    refine w_ (p_move rfl rfl) ?_
                    refine w_ (p_add (r := ((k + 1 : Nat) : Int)) rfl rfl (i64_is (by omega) (by omega)) rfl) ?_
                    refine w_ (p_assign rfl rfl) ?_
                    refine aw_pick [5, 8, 9, 79, 80, 10, 11] rfl ?_
                    refine aw_nil ?_
                    refine ⟨_, ?_, k + 1, by omega, fun a ha => by
                      rcases Nat.lt_or_ge a k with hak | hak
                      · exact hq1 a hak
                      · have : a = k := by omega
                        subst this; exact hid, rfl, rfl, rfl⟩
                    omega
                · have hki : k = i := by omega
                  rw [hki] at hq1
                  refine ac_seq ?_
                  refine ac_seq ?_
                  refine ac_reg ?_
                  refine w_ (p_move rfl rfl) ?_
                  refine w_ (p_move rfl rfl) ?_
                  refine w_ (p_cmp rfl rfl rfl rfl) ?_
                  refine aw_nil ?_
                  refine ac_f rfl (decide_eq_false (by omega)) ?_
                  refine ac_exit ?_
                  repeat refine seqQ_exit ?_
                  refine blkQ_here ?_
                  refine ac_reg ?_
                  refine w_ (p_add (r := ((i + 1 : Nat) : Int)) rfl rfl (i64_is (by omega) (by omega)) rfl) ?_
                  refine w_ (p_move rfl rfl) ?_
                  refine aw_pick [5, 8, 9, 79, 80] rfl ?_
                  refine aw_nil ?_
                  refine ⟨_, ?_, i + 1, by omega, fun a b hab hb => by
                    rcases Nat.lt_or_ge b i with hbi | hbi
                    · exact hp1 a b hab hbi
                    · have hb2 : b = i := by omega
                      subst hb2; exact hq1 a (by omega), rfl, rfl, rfl⟩
                  omega
              · exact absurd ((npts_pw zs N).2 (by rw [show N = i by omega]; exact hp1)) hpw

end Orr

namespace Orr
open Go Go.Proofs
variable {H : Type} {enc : TypeId × Value → H} {w : World} {base : Nat} {spare : Nat → Bool} {held : Bool}
theorem slice_one {P : Program} {t e fuel : Nat} {cs : List Value} {x : DataW H × List MemPlace} (ht : P.underlying t = some (.slice e)) (h : DataW.trod enc P w base spare held fuel t cs = some x) : ∃ v, cs = [v] ∧ one v = true := by
  rcases DataW.trod_slice ht h with ⟨rfl, _⟩ | ⟨a, len, cap, _, _, _, _, rfl, _⟩
  · exact ⟨_, rfl, rfl⟩
  · exact ⟨_, rfl, rfl⟩
theorem get_some {α : Type} {l : List α} {n i : Nat} (h : l.length = n) (hi : i < n) : ∃ x, l[i]? = some x := ⟨l[i]'(by omega), List.getElem?_eq_getElem (by omega)⟩
set_option maxRecDepth 20000 in
theorem pt_read {fuel : Nat} {cs : List Value} {x : DataW H × List MemPlace} (h : DataW.trod enc Tryz.prog w base spare held fuel 76 cs = some x) :
    ∃ v0 v1 v2 v3 id, cs = [v0, v1, v2, v3, .int .i64 id] ∧ one v0 = true ∧ one v1 = true ∧ one v2 = true ∧ one v3 = true ∧ (Lit.int .i64 id).wf = true := by
  obtain ⟨xs, n, _, _, hl, hxs, hf⟩ := DataW.trod_struct Tryz.underlying76 h
  have hl : cs.length = 5 := hl
  match cs, hl with
  | [v0, v1, v2, v3, v4], _ =>
    obtain ⟨z, hz⟩ := get_some (i := 1) hxs (by decide)
    have h1 := hf 1 _ rfl
    rw [hz] at h1
    obtain ⟨id, e1, _, hw⟩ := DataW.trod_int Tryz.underlying3 h1
    have e1 : [v4] = [Value.int .i64 id] := e1
    injection e1 with e1
    subst e1
    obtain ⟨z, hz⟩ := get_some (i := 0) hxs (by decide)
    have h0 := hf 0 _ rfl
    rw [hz] at h0
    obtain ⟨ys, n2, _, _, _, hys, hg⟩ := DataW.trod_struct Tryz.underlying74 h0
    obtain ⟨z0, hz0⟩ := get_some (i := 0) hys (by decide)
    obtain ⟨z1, hz1⟩ := get_some (i := 1) hys (by decide)
    obtain ⟨z2, hz2⟩ := get_some (i := 2) hys (by decide)
    have g0 := hg 0 _ rfl
    have g1 := hg 1 _ rfl
    have g2 := hg 2 _ rfl
    rw [hz0] at g0; rw [hz1] at g1; rw [hz2] at g2
    obtain ⟨u0, e0, o0⟩ := slice_one Tryz.underlying52 g0
    obtain ⟨u1, e1, o1⟩ := slice_one Tryz.underlying52 g1
    obtain ⟨qs, n3, _, _, _, hqs, hk⟩ := DataW.trod_struct Tryz.underlying55 g2
    obtain ⟨z3, hz3⟩ := get_some (i := 0) hqs (by decide)
    obtain ⟨z4, hz4⟩ := get_some (i := 1) hqs (by decide)
    have k0 := hk 0 _ rfl
    have k1 := hk 1 _ rfl
    rw [hz3] at k0; rw [hz4] at k1
    obtain ⟨b, e2, _⟩ := DataW.trod_bool Tryz.underlying4 k0
    obtain ⟨u3, e3, o3⟩ := slice_one Tryz.underlying53 k1
    have a0 : v0 = u0 := (List.cons.inj (show [v0] = [u0] from e0)).1
    have a1 : v1 = u1 := (List.cons.inj (show [v1] = [u1] from e1)).1
    have a2 : v2 = .bool b := (List.cons.inj (show [v2] = [Value.bool b] from e2)).1
    have a3 : v3 = u3 := (List.cons.inj (show [v3] = [u3] from e3)).1
    subst a0 a1 a2 a3
    exact ⟨_, _, _, _, id, rfl, o0, o1, rfl, o3, hw⟩
end Orr

namespace Orr
open Go Go.Proofs Go.ChangeShapes Go.WideShapes Go.ChangeAt Go.RowKit Go.WideElems

theorem cell_at {w : World} {a : Addr} {v : Value} (h : w.cell? a = some v) : a.spot = none ∧ a.block < w.heap.size := by
  simp only [World.cell?] at h
  split at h
  · rename_i c t fr hc
    split at h
    · cases h
    · rename_i hs
      refine ⟨by cases e : a.spot with | none => rfl | some _ => simp [e] at hs, ?_⟩
      exact (Array.getElem?_eq_some_iff.1 hc).1
  · cases h
theorem add_add {a : Addr} (h : a.spot = none) (n m : Nat) : (a.add n).add m = ⟨a.block, a.off + n + m, none⟩ := by
  obtain ⟨b, o, s⟩ := a
  simp only at h
  subst h
  simp only [Addr.add]
  split
  · rename_i h; subst h
    split
    · rename_i h; subst h; simp
    · simp
  · split
    · rename_i h; subst h; simp
    · simp

theorem same_of {w w' : World} {Bo : List Blk} (h : Moved w w' [] Bo) {p : MemPlace} (hp : p.block < w.heap.size) : w.sameAt w' p := by
  cases p with
  | cell b off => simp only [World.sameAt, World.cell?]; rw [h.keep b hp (by simp)]
  | map b => exact h.keep b hp (by simp)
theorem kept_of {w w' : World} {Bo : List Blk} (h : Moved w w' [] Bo) (may : MemPlace → Prop) : w.keptBut w' may := by
  refine ⟨h.io.1, h.io.2, fun i hi => ?_⟩
  rw [h.keep i hi (by simp)]
  cases w.heap[i]? with
  | none => rfl
  | some o => cases o <;> simp

set_option maxRecDepth 20000 in
/-- a row of points, told with what is read of it: the names -/
theorem pts_read {H : Type} {enc : TypeId × Value → H} {w : World} {v : Value} {d : DataW H} {ps : List MemPlace} {ts : List TypeId} {ds : List (DataW H)} {base : Nat}
    (hval : Value.okWide Tryz.prog w .any base 22 v) (h : DataW.Trod enc Tryz.prog w 0 (fun _ => true) true 22 v d ps)
    (hz : (DataW.weightsEach Tryz.prog ts ds).all (· ≤ reachBytes) = true) (ht : ts[0]? = some 22) (hd : ds[0]? = some d) :
    ∃ zs, Named zs ∧ LRep w (owns (fun _ => False) []) v (.row zs) := by
  obtain ⟨a, len, cap, rfl⟩ := okWide_slice Tryz.underlying22 hval
  obtain ⟨fu, h⟩ := h
  rcases Go.Deep.open_slice Tryz.underlying22 h with ⟨e, _⟩ | ⟨a', len', cap', m, n, D, Pl, e, _, hlc, hcap, hm, hx, hr⟩
  · simp only [Value.cells] at e
    have e : Value.slice a len cap = .slice none 0 0 := by simpa using e
    injection e with e1 e2 e3
    subst e1 e2 e3
    refine ⟨[], fun z hz => by simp at hz, ?_⟩
    exact LRep.row none 0 0 0 0 [] (fun _ _ => .bool true) (Nat.le_refl _) (by decide) (by decide) (by simp) (by simp) (by simp) (by simp)
  · simp only [Value.cells] at e
    have e : Value.slice a len cap = .slice (some a') len' cap' := by simpa using e
    injection e with e1 e2 e3
    subst e1 e2 e3
    simp only [if_true] at hm
    subst hm
    have hd' : d = _ := congrArg Prod.fst hx
    subst hd'
    have hw := sized_slice hz ht hd Tryz.underlying22
    have hc5 : Tryz.prog.cellsOf 76 = 5 := by kernel_rfl
    have hb : 1 ≤ Tryz.prog.bytesOf 76 := of_decide_eq_true (by kernel_rfl)
    have hlen : len < 2 ^ 47 := by
      have h1 : len ≤ (len + (m - len)) * Tryz.prog.bytesOf 76 := by
        have := Nat.mul_le_mul (Nat.le_add_right len (m - len)) hb
        omega
      have h2 : (len + (m - len)) * Tryz.prog.bytesOf 76 ≤ reachBytes := by simpa using hw
      exact Nat.lt_of_le_of_lt (Nat.le_trans h1 h2) reachBytes_lt
    have hone : ∀ i, ∃ (g : Nat → Value) (id : Int), i < len → a'.spot = none ∧ a'.block < w.heap.size ∧
        (∀ j, j < 5 → w.cell? ⟨a'.block, a'.off + i * 5 + j, none⟩ = some (g j)) ∧ (∀ j, j < 4 → one (g j) = true) ∧ g 4 = .int .i64 id ∧ (Lit.int .i64 id).wf = true := by
      intro i
      by_cases hi : i < len
      · obtain ⟨cs, hcs, htr⟩ := hr i (by omega)
        rw [hc5] at hcs
        obtain ⟨_, hl, hcell⟩ := World.cells?_some hcs
        obtain ⟨v0, v1, v2, v3, id, rfl, o0, o1, o2, o3, hwf⟩ := pt_read htr
        have c0 := hcell 0 (by decide)
        have c1 := hcell 1 (by decide)
        have c2 := hcell 2 (by decide)
        have c3 := hcell 3 (by decide)
        have c4 := hcell 4 (by decide)
        have hsp : a'.spot = none := by
          by_cases h0 : i = 0
          · subst h0
            have : (a'.add (0 * 5)).add 0 = a' := by simp [Addr.add]
            rw [this] at c0
            exact (cell_at c0).1
          · obtain ⟨cs0, hcs0, htr0⟩ := hr 0 (by omega)
            rw [hc5] at hcs0
            obtain ⟨_, _, hcell0⟩ := World.cells?_some hcs0
            obtain ⟨u0, u1, u2, u3, _, rfl, _⟩ := pt_read htr0
            have c0 := hcell0 0 (by decide)
            have : (a'.add (0 * 5)).add 0 = a' := by simp [Addr.add]
            rw [this] at c0
            exact (cell_at c0).1
        rw [add_add hsp] at c0 c1 c2 c3 c4
        have hbl := (cell_at c0).2
        refine ⟨fun j => [v0, v1, v2, v3, .int .i64 id].getD j (.bool true), id, fun _ => ⟨hsp, hbl, ?_, ?_, rfl, hwf⟩⟩
        · intro j hj
          match j, hj with
          | 0, _ => simpa using c0
          | 1, _ => simpa using c1
          | 2, _ => simpa using c2
          | 3, _ => simpa using c3
          | 4, _ => simpa using c4
        · intro j hj
          match j, hj with
          | 0, _ => simpa using o0
          | 1, _ => simpa using o1
          | 2, _ => simpa using o2
          | 3, _ => simpa using o3
      · exact ⟨fun _ => .bool true, 0, fun h => absurd h hi⟩
    let G : Nat → Nat → Value := fun i => Classical.choose (hone i)
    have hG : ∀ i, ∃ id : Int, i < len → a'.spot = none ∧ a'.block < w.heap.size ∧
        (∀ j, j < 5 → w.cell? ⟨a'.block, a'.off + i * 5 + j, none⟩ = some (G i j)) ∧ (∀ j, j < 4 → one (G i j) = true) ∧ G i 4 = .int .i64 id ∧ (Lit.int .i64 id).wf = true := fun i => Classical.choose_spec (hone i)
    let I : Nat → Int := fun i => Classical.choose (hG i)
    have hI : ∀ i, i < len → a'.spot = none ∧ a'.block < w.heap.size ∧
        (∀ j, j < 5 → w.cell? ⟨a'.block, a'.off + i * 5 + j, none⟩ = some (G i j)) ∧ (∀ j, j < 4 → one (G i j) = true) ∧ G i 4 = .int .i64 (I i) ∧ (Lit.int .i64 (I i)).wf = true := fun i => Classical.choose_spec (hG i)
    let zs : List (List LV) := (List.range len).map fun i => [.any, .any, .any, .any, .int .i64 (I i)]
    have hzl : zs.length = len := by simp [zs]
    have hzg : ∀ i cs, zs[i]? = some cs → i < len ∧ cs = [.any, .any, .any, .any, .int .i64 (I i)] := by
      intro i cs h
      simp only [zs, List.getElem?_map] at h
      by_cases hi : i < len
      · rw [List.getElem?_range hi] at h
        simp at h
        exact ⟨hi, h.symm⟩
      · rw [List.getElem?_eq_none (by simp; omega)] at h
        cases h
    refine ⟨zs, ?_, ?_⟩
    · intro z hz
      obtain ⟨i, hi⟩ := List.mem_iff_getElem?.1 hz
      obtain ⟨hl, rfl⟩ := hzg i z hi
      have hwf := (hI i hl).2.2.2.2.2
      refine ⟨_, _, _, _, _, rfl, ?_⟩
      simpa [Lit.wf, IntKind.min, IntKind.max, IntKind.signed, IntKind.bits] using hwf
    · have key : LRep w (owns (fun _ => False) []) (.slice (some a') zs.length m) (.row zs) := by
        refine LRep.row (some a') m 5 a'.block a'.off zs G (by omega) ?_ (by omega) ?_ ?_ ?_ ?_
        · have : maxLen = 2 ^ 63 - 1 := by rfl
          omega
        · intro cs hcs
          obtain ⟨i, hi⟩ := List.mem_iff_getElem?.1 hcs
          obtain ⟨_, rfl⟩ := hzg i cs hi
          rfl
        · intro h0
          obtain ⟨hs, hb, _⟩ := hI 0 (by omega)
          refine ⟨?_, hb, by simp [owns]⟩
          obtain ⟨b, o, s⟩ := a'
          simp only at hs
          rw [hs]
        · intro i cs hi j hj
          obtain ⟨hl, rfl⟩ := hzg i cs hi
          exact (hI i hl).2.2.1 j hj
        · intro i cs hi j x hx
          obtain ⟨hl, rfl⟩ := hzg i cs hi
          obtain ⟨_, _, _, h4, h5, _⟩ := hI i hl
          match j, hx with
          | 0, hx => simp at hx; subst hx; exact .any _ (h4 0 (by decide))
          | 1, hx => simp at hx; subst hx; exact .any _ (h4 1 (by decide))
          | 2, hx => simp at hx; subst hx; exact .any _ (h4 2 (by decide))
          | 3, hx => simp at hx; subst hx; exact .any _ (h4 3 (by decide))
          | 4, hx => simp at hx; subst hx; rw [h5]; exact .int _ _
          | j + 5, hx => simp at hx
      rwa [hzl] at key

set_option maxRecDepth 20000 in
/-- a law of a row of points, of which only the names are read, and a number -/
theorem law_points {f : FuncId} {fn : Func} {s : ChangeSpec} (hp : fn.params = #[22, 3]) (hr : fn.resultTypes = #[4]) (hv : s.vars = [])
    (hs : ∀ (H : Type) (d1 d2 : DataW H), s.fn H [d1, d2] = { results := [.lit (.bool true)], args := [d1, d2] })
    (hlaid : laidOutB Tryz.prog = true) (hr22 : Tryz.prog.readableRec 22 = true) (hr3 : Tryz.prog.readableRec 3 = true) (hs22 : 22 < Tryz.prog.types.size) (hs3 : 3 < Tryz.prog.types.size)
    (law : ∀ (zs : List (List LV)) (n : Int), Named zs → (-2^63 ≤ n ∧ n ≤ 2^63-1) → Does Tryz.prog f [.one (.row zs), .one (.int .i64 n)] (.one (.bool true)))
    {H : Type} {enc : TypeId × Value → H} {W : World} {base : Nat} {args : Array Value} {ds gs : List (DataW H)} {before : List MemPlace} {fresh handsOn : Bool}
    (hval : ∀ (j : Nat) t v, fn.params[j]? = some t → args[j]? = some v → Value.okWide Tryz.prog W .any base t v)
    (hW : DataW.Whole enc Tryz.prog fn.params.toList s.vars false W args.toList ds gs before)
    (hz : (DataW.weightsEach Tryz.prog (fn.params.toList ++ s.plain.varTypes Tryz.prog) (ds ++ gs)).all (· ≤ reachBytes) = true) :
    Calls Tryz.prog f args W fun e W' => ∃ v, e = .returned v ∧ s.post enc Tryz.prog fn false fresh handsOn false W args v W' := by
  have hW' := hW
  obtain ⟨p, q, hA0, hV, rfl, hfz, hnd⟩ := hW
  have hA : DataW.TrodAll enc Tryz.prog W 0 (fun _ => true) true fn.params.toList args.toList ds p := hA0
  rw [hv] at hV
  obtain ⟨rfl, rfl⟩ := trodVars_none hV
  have hlt := hW'.lt
  rw [hp] at hA hval hz
  obtain ⟨v0, vs0, d0, ds0, p0, q0, hargs0, rfl, rfl, h0, r0⟩ := trodAll_cons hA
  obtain ⟨v1, vs1, d1, ds1, p1, q1, rfl, rfl, rfl, h1, r1⟩ := trodAll_cons r0
  obtain ⟨rfl, rfl, rfl⟩ := trodAll_nil r1
  obtain rfl : args = #[v0, v1] := by cases args; simp_all
  obtain ⟨n, rfl, rfl, rfl, w1⟩ := open_int Tryz.underlying3 (hval 1 3 v1 rfl rfl) h1
  obtain ⟨zs, hn, hrep⟩ := pts_read (hval 0 22 v0 rfl rfl) h0 hz rfl rfl
  have hn1 : -2^63 ≤ n ∧ n ≤ 2^63-1 := by simpa [Lit.wf, IntKind.min, IntKind.max, IntKind.signed, IntKind.bits] using w1
  have hcall := law zs n hn hn1 (fun _ => False) W [v0, .int .i64 n] [] (fun _ h => h.elim) ⟨by simp, by simp⟩ ⟨hrep.x, (LRep.int .i64 n).x, trivial⟩ rfl
  refine hcall.mono fun e W' ⟨v, r, Bout, Bo, he, hpost, har, hbs, hm, hh⟩ => ?_
  obtain ⟨rfl, rfl⟩ := hpost
  obtain rfl : v = .bool true := by
    have h : LRep _ _ v (.bool true) := har
    cases h
    rfl
  refine ⟨_, he, ?_⟩
  refine ⟨[d0, .lit (.int .i64 n)], [], _, [], p0 ++ ([] ++ []), [], hW', ?_, ?_, ?_, kept_of hm _, fun h => by cases h⟩
  · rw [hr, List.append_nil, hs]
    exact trodAll_cons_mk (shut_bool Tryz.underlying4 true) trodAll_mk0
  · rw [hp, List.append_nil, hs]
    have hb : ∀ p ∈ p0, p.block < W.heap.size := fun p hp => hlt p (by simp [hp])
    exact trodAll_cons_mk (Trod_stays hlaid hr22 hs22 h0 (fun p hp => same_of hm (hb p hp)) (fun p hp => by simpa using hb p hp)) (trodAll_cons_mk (shut_int Tryz.underlying3 w1) trodAll_mk0)
  · rw [hv, List.append_nil, hs]
    rfl
end Orr
