/- ARatio Av7 ACurve ACrowd APred -/
import Derived.Test.YtdigkdmaagnimaaGreatPart05
import Derived.Test.YtdigkdmaagnimaaGreatPart02
set_option linter.all false

namespace Orr
open Go Go.Proofs
theorem d_ratio_lowest {n d : Int} (h0 : d ≠ 0) (hn : isz n ≤ 4294967295) (hd : isz d ≤ 4294967295) : Does Tryz.prog 69 [.agg [sg n, mg n], .agg [sg d, mg d]] (.agg [sg (((Rat.divInt n d)).num), mg (((Rat.divInt n d)).num), sg ((((Rat.divInt n d)).den : Int)), mg ((((Rat.divInt n d)).den : Int))]) := by
 refine does_ (n := 31) Tryz.func69 rfl Tryz.ntmps69 rfl ?_
 have hg0 := gcdL_pos (n := n) h0
 have hgs := isz_gcd (n := n) h0 hd
 have hm1 := gcdL_dvd_l n d
 have hm2 := gcdL_dvd_r n d
 rcases Int.lt_or_gt_of_ne h0 with hneg | hpos
 ·skip
  refine ac_seq (ac_reg ?_)
  refine a_box rfl rfl rfl fun g1 => ?_
  refine a_box rfl rfl rfl fun g2 => ?_
  refine a_alloc Tryz.zeroValue41 rfl rfl fun g3 => ?_
  refine aw_nil ?_
  refine ac_seq (ac_reg ?_)
  refine w_ (p_loadOw 2 Tryz.isAgg30 Tryz.sizeOf30 rfl rfl rfl rfl rfl) ?_
  refine w_ (p_loadOw 1 Tryz.isAgg30 Tryz.sizeOf30 rfl rfl rfl rfl rfl) ?_
  refine w_ (p_lit Tryz.runUnderlying26 Tryz.sizeOf30 Tryz.zeroValue30 rfl rfl rfl rfl rfl rfl rfl rfl rfl rfl) ?_
  refine w_ (p_call Tryz.func36 rfl rfl rfl rfl (d_whole_Gcd (isInts_n [n, d]) (by intro z hz; simp only [List.mem_cons, List.not_mem_nil, or_false] at hz; rcases hz with rfl | rfl <;> assumption)) rfl) ?_
  refine a_alloc Tryz.zeroValue30 rfl rfl fun g4 => ?_
  refine a_storeOw 0 Tryz.sizeOf30 rfl rfl rfl rfl rfl rfl rfl ?_
  refine aw_nil ?_
  refine ac_seq (ac_seq (ac_reg ?_))
  refine w_ (p_fieldOw fa_30_0 rfl rfl) ?_
  refine w_ (p_loadOw 2 Tryz.isAgg4 Tryz.sizeOf4 rfl rfl rfl rfl rfl) ?_
  refine aw_nil ?_
  refine ac_t rfl (decide_eq_true hneg) ?_
  refine ac_draw mixed_ 3 [12, 13, 14] [[], [0], []] [.agg [sg n, mg n], .agg [sg (-n), mg (-n)], .agg [sg d, mg d]] rfl rfl rfl ⟨p_loadOw 3 Tryz.isAgg30 Tryz.sizeOf30 rfl rfl rfl rfl rfl, p_call Tryz.func24 rfl rfl rfl rfl (d_whole_Neg (isInt_n _) (hn)) rfl, p_loadOw 2 Tryz.isAgg30 Tryz.sizeOf30 rfl rfl rfl rfl rfl, trivial⟩ rfl ?_
  refine w_ (p_call Tryz.func24 rfl rfl rfl rfl (d_whole_Neg (isInt_n _) (hd)) rfl) ?_
  refine a_storeOw 3 Tryz.sizeOf30 rfl rfl rfl rfl rfl rfl rfl ?_
  refine a_storeOw 2 Tryz.sizeOf30 rfl rfl rfl rfl rfl rfl rfl ?_
  refine aw_nil ?_
  refine ac_seq (ac_reg ?_)
  refine w_ (p_loadOw 3 Tryz.isAgg30 Tryz.sizeOf30 rfl rfl rfl rfl rfl) ?_
  refine w_ (p_loadOw 0 Tryz.isAgg30 Tryz.sizeOf30 rfl rfl rfl rfl rfl) ?_
  refine w_ (p_call Tryz.func37 rfl rfl rfl rfl (d_whole_Exact (isInt_n _) (isInt_n _) (by rw [isz_neg]; exact hn) (hgs) (by omega) (neg_mod hm1)) rfl) ?_
  refine w_ (p_move rfl rfl) ?_
  refine w_ (p_extract rfl rfl rfl) ?_
  refine w_ (p_extract rfl rfl rfl) ?_
  refine a_storeOw 3 Tryz.sizeOf30 rfl rfl rfl rfl rfl rfl rfl ?_
  refine aw_nil ?_
  refine ac_seq (ac_reg ?_)
  refine w_ (p_loadOw 2 Tryz.isAgg30 Tryz.sizeOf30 rfl rfl rfl rfl rfl) ?_
  refine w_ (p_loadOw 0 Tryz.isAgg30 Tryz.sizeOf30 rfl rfl rfl rfl rfl) ?_
  refine w_ (p_call Tryz.func37 rfl rfl rfl rfl (d_whole_Exact (isInt_n _) (isInt_n _) (by rw [isz_neg]; exact hd) (hgs) (by omega) (neg_mod hm2)) rfl) ?_
  refine w_ (p_move rfl rfl) ?_
  refine w_ (p_extract rfl rfl rfl) ?_
  refine w_ (p_extract rfl rfl rfl) ?_
  refine a_storeOw 2 Tryz.sizeOf30 rfl rfl rfl rfl rfl rfl rfl ?_
  refine aw_nil ?_
  refine ac_seq (ac_reg ?_)
  refine w_ (p_loadOw 3 Tryz.isAgg30 Tryz.sizeOf30 rfl rfl rfl rfl rfl) ?_
  refine w_ (p_loadOw 2 Tryz.isAgg30 Tryz.sizeOf30 rfl rfl rfl rfl rfl) ?_
  refine w_ (p_build (bd_41) rfl rfl rfl rfl) ?_
  refine a_storeOw 1 Tryz.sizeOf41 rfl rfl rfl rfl rfl rfl rfl ?_
  refine aw_nil ?_
  refine ac_ret ?_
  exact retB_1 Tryz.results69 (rv_cell 1 Tryz.isAgg41 Tryz.sizeOf41 rfl rfl rfl rfl rfl) (rl_eq (low_neg hneg).1 (low_neg hneg).2)
 skip
 refine ac_seq (ac_reg ?_)
 refine a_box rfl rfl rfl fun g5 => ?_
 refine a_box rfl rfl rfl fun g6 => ?_
 refine a_alloc Tryz.zeroValue41 rfl rfl fun g7 => ?_
 refine aw_nil ?_
 refine ac_seq (ac_reg ?_)
 refine w_ (p_loadOw 2 Tryz.isAgg30 Tryz.sizeOf30 rfl rfl rfl rfl rfl) ?_
 refine w_ (p_loadOw 1 Tryz.isAgg30 Tryz.sizeOf30 rfl rfl rfl rfl rfl) ?_
 refine w_ (p_lit Tryz.runUnderlying26 Tryz.sizeOf30 Tryz.zeroValue30 rfl rfl rfl rfl rfl rfl rfl rfl rfl rfl) ?_
 refine w_ (p_call Tryz.func36 rfl rfl rfl rfl (d_whole_Gcd (isInts_n [n, d]) (by intro z hz; simp only [List.mem_cons, List.not_mem_nil, or_false] at hz; rcases hz with rfl | rfl <;> assumption)) rfl) ?_
 refine a_alloc Tryz.zeroValue30 rfl rfl fun g8 => ?_
 refine a_storeOw 0 Tryz.sizeOf30 rfl rfl rfl rfl rfl rfl rfl ?_
 refine aw_nil ?_
 refine ac_seq (ac_seq (ac_reg ?_))
 refine w_ (p_fieldOw fa_30_0 rfl rfl) ?_
 refine w_ (p_loadOw 2 Tryz.isAgg4 Tryz.sizeOf4 rfl rfl rfl rfl rfl) ?_
 refine aw_nil ?_
 refine ac_f rfl (decide_eq_false (by omega)) ?_
 refine ac_skip ?_
 refine ac_seq (ac_reg ?_)
 refine w_ (p_loadOw 3 Tryz.isAgg30 Tryz.sizeOf30 rfl rfl rfl rfl rfl) ?_
 refine w_ (p_loadOw 0 Tryz.isAgg30 Tryz.sizeOf30 rfl rfl rfl rfl rfl) ?_
 refine w_ (p_call Tryz.func37 rfl rfl rfl rfl (d_whole_Exact (isInt_n _) (isInt_n _) (hn) (hgs) (by omega) (hm1)) rfl) ?_
 refine w_ (p_move rfl rfl) ?_
 refine w_ (p_extract rfl rfl rfl) ?_
 refine w_ (p_extract rfl rfl rfl) ?_
 refine a_storeOw 3 Tryz.sizeOf30 rfl rfl rfl rfl rfl rfl rfl ?_
 refine aw_nil ?_
 refine ac_seq (ac_reg ?_)
 refine w_ (p_loadOw 2 Tryz.isAgg30 Tryz.sizeOf30 rfl rfl rfl rfl rfl) ?_
 refine w_ (p_loadOw 0 Tryz.isAgg30 Tryz.sizeOf30 rfl rfl rfl rfl rfl) ?_
 refine w_ (p_call Tryz.func37 rfl rfl rfl rfl (d_whole_Exact (isInt_n _) (isInt_n _) (hd) (hgs) (by omega) (hm2)) rfl) ?_
 refine w_ (p_move rfl rfl) ?_
 refine w_ (p_extract rfl rfl rfl) ?_
 refine w_ (p_extract rfl rfl rfl) ?_
 refine a_storeOw 2 Tryz.sizeOf30 rfl rfl rfl rfl rfl rfl rfl ?_
 refine aw_nil ?_
 refine ac_seq (ac_reg ?_)
 refine w_ (p_loadOw 3 Tryz.isAgg30 Tryz.sizeOf30 rfl rfl rfl rfl rfl) ?_
 refine w_ (p_loadOw 2 Tryz.isAgg30 Tryz.sizeOf30 rfl rfl rfl rfl rfl) ?_
 refine w_ (p_build (bd_41) rfl rfl rfl rfl) ?_
 refine a_storeOw 1 Tryz.sizeOf41 rfl rfl rfl rfl rfl rfl rfl ?_
 refine aw_nil ?_
 refine ac_ret ?_
 exact retB_1 Tryz.results69 (rv_cell 1 Tryz.isAgg41 Tryz.sizeOf41 rfl rfl rfl rfl rfl) (rl_eq (low_pos hpos).1 (low_pos hpos).2)
theorem d_ratio_norm {b1 b2 : Bool} {l1 l2 : List Nat} {n d : Int} (h1 : IsInt (.bool b1) (u32r l1) n) (h2 : IsInt (.bool b2) (u32r l2) d) (hn : isz n ≤ 4294967295) (hd : isz d ≤ 4294967295) : Does Tryz.prog 43 [.agg [.bool b1, u32r l1, .bool b2, u32r l2]] (.agg [sg (((ratOf n d)).num), mg (((ratOf n d)).num), sg ((((ratOf n d)).den : Int)), mg ((((ratOf n d)).den : Int))]) := by
 refine does_ (n := 15) Tryz.func43 rfl Tryz.ntmps43 rfl ?_
 by_cases h0 : d = 0
 ·skip
  refine ac_seq (ac_reg ?_)
  refine w_ (p_boxS rfl rfl rfl rfl) ?_
  refine a_alloc Tryz.zeroValue41 rfl rfl fun g1 => ?_
  refine aw_nil ?_
  refine ac_seq (ac_reg ?_)
  refine w_ (p_fieldSh fa_41_1 rfl rfl rfl) ?_
  refine w_ (p_loadSh Tryz.isAgg30 Tryz.sizeOf30 rfl rfl rfl rfl) ?_
  refine w_ (p_call Tryz.func34 rfl rfl rfl rfl (d_whole_Norm h2 (hd)) rfl) ?_
  refine a_alloc Tryz.zeroValue30 rfl rfl fun g2 => ?_
  refine a_storeOw 0 Tryz.sizeOf30 rfl rfl rfl rfl rfl rfl rfl ?_
  refine aw_nil ?_
  refine ac_seq (ac_seq (ac_reg ?_))
  refine w_ (p_loadOw 0 Tryz.isAgg30 Tryz.sizeOf30 rfl rfl rfl rfl rfl) ?_
  refine w_ (p_call Tryz.func35 rfl rfl rfl rfl ((d_ZeroN _) ) rfl) ?_
  refine aw_nil ?_
  refine ac_t rfl (decide_eq_true h0) ?_
  refine ac_reg ?_
  refine w_ (p_call Tryz.func20 rfl rfl rfl rfl (d_whole_Of (by omega)) rfl) ?_
  refine a_storeOw 0 Tryz.sizeOf30 rfl rfl rfl rfl rfl rfl rfl ?_
  refine aw_nil ?_
  refine ac_seq ?_
  refine ac_draw mixed_ 4 [10, 11, 12, 13] [[], [0], [1], []] [.one (.sh [.bool b1, u32r l1, .bool b2, u32r l2]), .agg [.bool b1, u32r l1], .agg [sg n, mg n], .agg [sg 1, mg 1]] rfl rfl rfl ⟨p_fieldSh fa_41_0 rfl rfl rfl, p_loadSh Tryz.isAgg30 Tryz.sizeOf30 rfl rfl rfl rfl, p_call Tryz.func34 rfl rfl rfl rfl (d_whole_Norm h1 (hn)) rfl, p_loadOw 0 Tryz.isAgg30 Tryz.sizeOf30 rfl rfl rfl rfl rfl, trivial⟩ rfl ?_
  refine w_ (p_call Tryz.func69 rfl rfl rfl rfl (d_ratio_lowest (by decide) (hn) (by decide)) rfl) ?_
  refine a_storeOw 1 Tryz.sizeOf41 rfl rfl rfl rfl rfl rfl rfl ?_
  refine aw_nil ?_
  refine ac_ret ?_
  exact retB_1 Tryz.results43 (rv_cell 1 Tryz.isAgg41 Tryz.sizeOf41 rfl rfl rfl rfl rfl) (by unfold ratOf; rw [if_pos h0])
 skip
 refine ac_seq (ac_reg ?_)
 refine w_ (p_boxS rfl rfl rfl rfl) ?_
 refine a_alloc Tryz.zeroValue41 rfl rfl fun g3 => ?_
 refine aw_nil ?_
 refine ac_seq (ac_reg ?_)
 refine w_ (p_fieldSh fa_41_1 rfl rfl rfl) ?_
 refine w_ (p_loadSh Tryz.isAgg30 Tryz.sizeOf30 rfl rfl rfl rfl) ?_
 refine w_ (p_call Tryz.func34 rfl rfl rfl rfl (d_whole_Norm h2 (hd)) rfl) ?_
 refine a_alloc Tryz.zeroValue30 rfl rfl fun g4 => ?_
 refine a_storeOw 0 Tryz.sizeOf30 rfl rfl rfl rfl rfl rfl rfl ?_
 refine aw_nil ?_
 refine ac_seq (ac_seq (ac_reg ?_))
 refine w_ (p_loadOw 0 Tryz.isAgg30 Tryz.sizeOf30 rfl rfl rfl rfl rfl) ?_
 refine w_ (p_call Tryz.func35 rfl rfl rfl rfl ((d_ZeroN _) ) rfl) ?_
 refine aw_nil ?_
 refine ac_f rfl (decide_eq_false h0) ?_
 refine ac_skip ?_
 refine ac_seq ?_
 refine ac_draw mixed_ 4 [10, 11, 12, 13] [[], [0], [1], []] [.one (.sh [.bool b1, u32r l1, .bool b2, u32r l2]), .agg [.bool b1, u32r l1], .agg [sg n, mg n], .agg [sg d, mg d]] rfl rfl rfl ⟨p_fieldSh fa_41_0 rfl rfl rfl, p_loadSh Tryz.isAgg30 Tryz.sizeOf30 rfl rfl rfl rfl, p_call Tryz.func34 rfl rfl rfl rfl (d_whole_Norm h1 (hn)) rfl, p_loadOw 0 Tryz.isAgg30 Tryz.sizeOf30 rfl rfl rfl rfl rfl, trivial⟩ rfl ?_
 refine w_ (p_call Tryz.func69 rfl rfl rfl rfl (d_ratio_lowest (h0) (hn) (hd)) rfl) ?_
 refine a_storeOw 1 Tryz.sizeOf41 rfl rfl rfl rfl rfl rfl rfl ?_
 refine aw_nil ?_
 refine ac_ret ?_
 exact retB_1 Tryz.results43 (rv_cell 1 Tryz.isAgg41 Tryz.sizeOf41 rfl rfl rfl rfl rfl) (by unfold ratOf; rw [if_neg h0])
theorem d_ratio_normQ {q : Rat} (hq : Qs 4294967295 q) : Does Tryz.prog 43 [.agg (rl q)] (.agg (rl q)) := by
 have h := d_ratio_norm (isInt_n q.num) (isInt_n (q.den : Int)) hq.1 hq.2
 rwa [ratOf_q] at h
set_option maxRecDepth 20000 in
theorem d_ratio_cross {a b : Rat} (ha : Qs 2147483647 a) (hb : Qs 2147483647 b) : Does Tryz.prog 70 [.agg [sg a.num, mg a.num, sg ((a.den : Int)), mg ((a.den : Int))], .agg [sg b.num, mg b.num, sg ((b.den : Int)), mg ((b.den : Int))]] (.tup [.agg [sg (a.num * (b.den : Int)), mg (a.num * (b.den : Int))], .agg [sg (b.num * (a.den : Int)), mg (b.num * (a.den : Int))], .agg [sg ((a.den : Int) * (b.den : Int)), mg ((a.den : Int) * (b.den : Int))]]) := by
 refine does_ (n := 26) Tryz.func70 rfl Tryz.ntmps70 rfl ?_
 refine ac_seq (ac_reg ?_)
 refine a_box rfl rfl rfl fun g1 => ?_
 refine a_box rfl rfl rfl fun g2 => ?_
 refine a_alloc Tryz.zeroValue30 rfl rfl fun g3 => ?_
 refine a_alloc Tryz.zeroValue30 rfl rfl fun g4 => ?_
 refine a_alloc Tryz.zeroValue30 rfl rfl fun g5 => ?_
 refine aw_nil ?_
 refine ac_seq ?_
 refine ac_draw mixed_ 3 [7, 8, 9] [[], [0], []] [.agg [sg a.num, mg a.num, sg ((a.den : Int)), mg ((a.den : Int))], .agg [sg a.num, mg a.num, sg ((a.den : Int)), mg ((a.den : Int))], .agg [sg b.num, mg b.num, sg ((b.den : Int)), mg ((b.den : Int))]] rfl rfl rfl ⟨p_loadOw 4 Tryz.isAgg41 Tryz.sizeOf41 rfl rfl rfl rfl rfl, p_call Tryz.func43 rfl rfl rfl rfl (d_ratio_normQ (ha.mono (by omega))) rfl, p_loadOw 3 Tryz.isAgg41 Tryz.sizeOf41 rfl rfl rfl rfl rfl, trivial⟩ rfl ?_
 refine w_ (p_call Tryz.func43 rfl rfl rfl rfl (d_ratio_normQ (hb.mono (by omega))) rfl) ?_
 refine a_storeOw 4 Tryz.sizeOf41 rfl rfl rfl rfl rfl rfl rfl ?_
 refine a_storeOw 3 Tryz.sizeOf41 rfl rfl rfl rfl rfl rfl rfl ?_
 refine aw_nil ?_
 refine ac_seq ?_
 refine ac_draw mixed_ 14 [11, 12, 13, 14, 15, 16, 17, 18, 19, 20, 21, 22, 23, 24] [[], [0], [], [2], [1, 3], [], [5], [], [7], [6, 8], [], [10], [], [12]] [.one (.ow g1 0), .agg [sg a.num, mg a.num], .one (.ow g2 2), .agg [sg ((b.den : Int)), mg ((b.den : Int))], .agg [sg (a.num * ((b.den : Int))), mg (a.num * ((b.den : Int)))], .one (.ow g2 0), .agg [sg b.num, mg b.num], .one (.ow g1 2), .agg [sg ((a.den : Int)), mg ((a.den : Int))], .agg [sg (b.num * ((a.den : Int))), mg (b.num * ((a.den : Int)))], .one (.ow g1 2), .agg [sg ((a.den : Int)), mg ((a.den : Int))], .one (.ow g2 2), .agg [sg ((b.den : Int)), mg ((b.den : Int))]] rfl rfl rfl ⟨p_fieldOw fa_41_0 rfl rfl, p_loadOw 4 Tryz.isAgg30 Tryz.sizeOf30 rfl rfl rfl rfl rfl, p_fieldOw fa_41_1 rfl rfl, p_loadOw 3 Tryz.isAgg30 Tryz.sizeOf30 rfl rfl rfl rfl rfl, p_call Tryz.func89 rfl rfl rfl rfl (d_whole_Mul (isInt_n _) (isInt_n _) (Nat.le_trans ha.1 (by omega)) (Nat.le_trans hb.2 (by omega))) rfl, p_fieldOw fa_41_0 rfl rfl, p_loadOw 3 Tryz.isAgg30 Tryz.sizeOf30 rfl rfl rfl rfl rfl, p_fieldOw fa_41_1 rfl rfl, p_loadOw 4 Tryz.isAgg30 Tryz.sizeOf30 rfl rfl rfl rfl rfl, p_call Tryz.func89 rfl rfl rfl rfl (d_whole_Mul (isInt_n _) (isInt_n _) (Nat.le_trans hb.1 (by omega)) (Nat.le_trans ha.2 (by omega))) rfl, p_fieldOw fa_41_1 rfl rfl, p_loadOw 4 Tryz.isAgg30 Tryz.sizeOf30 rfl rfl rfl rfl rfl, p_fieldOw fa_41_1 rfl rfl, p_loadOw 3 Tryz.isAgg30 Tryz.sizeOf30 rfl rfl rfl rfl rfl, trivial⟩ rfl ?_
 refine w_ (p_call Tryz.func89 rfl rfl rfl rfl (d_whole_Mul (isInt_n _) (isInt_n _) (Nat.le_trans ha.2 (by omega)) (Nat.le_trans hb.2 (by omega))) rfl) ?_
 refine a_storeOw 2 Tryz.sizeOf30 rfl rfl rfl rfl rfl rfl rfl ?_
 refine a_storeOw 1 Tryz.sizeOf30 rfl rfl rfl rfl rfl rfl rfl ?_
 refine a_storeOw 0 Tryz.sizeOf30 rfl rfl rfl rfl rfl rfl rfl ?_
 refine aw_nil ?_
 refine ac_ret ?_
 exact retB_3 Tryz.results70 (rv_cell 2 Tryz.isAgg30 Tryz.sizeOf30 rfl rfl rfl rfl rfl) (rv_cell 1 Tryz.isAgg30 Tryz.sizeOf30 rfl rfl rfl rfl rfl) (rv_cell 0 Tryz.isAgg30 Tryz.sizeOf30 rfl rfl rfl rfl rfl) (rfl)
theorem d_ratio_Cmp {a b : Rat} (ha : Qs 2147483647 a) (hb : Qs 2147483647 b) : Does Tryz.prog 44 [.agg [sg a.num, mg a.num, sg ((a.den : Int)), mg ((a.den : Int))], .agg [sg b.num, mg b.num, sg ((b.den : Int)), mg ((b.den : Int))]] (.one (.int .i64 (cmpQ a b))) := by
 refine does_ (n := 18) Tryz.func44 rfl Tryz.ntmps44 rfl ?_
 refine ac_seq (ac_reg ?_)
 refine w_ (p_boxS rfl rfl rfl rfl) ?_
 refine w_ (p_boxS rfl rfl rfl rfl) ?_
 refine w_ (p_assign rfl rfl) ?_
 refine aw_nil ?_
 refine ac_seq (ac_reg ?_)
 refine w_ (p_loadSh Tryz.isAgg41 Tryz.sizeOf41 rfl rfl rfl rfl) ?_
 refine w_ (p_loadSh Tryz.isAgg41 Tryz.sizeOf41 rfl rfl rfl rfl) ?_
 refine w_ (p_call Tryz.func70 rfl rfl rfl rfl (d_ratio_cross (ha) (hb)) rfl) ?_
 refine w_ (p_move rfl rfl) ?_
 refine w_ (p_extract rfl rfl rfl) ?_
 refine w_ (p_extract rfl rfl rfl) ?_
 refine w_ (p_extract rfl rfl rfl) ?_
 refine a_alloc Tryz.zeroValue30 rfl rfl fun g1 => ?_
 refine a_alloc Tryz.zeroValue30 rfl rfl fun g2 => ?_
 refine a_alloc Tryz.zeroValue30 rfl rfl fun g3 => ?_
 refine a_storeOw 2 Tryz.sizeOf30 rfl rfl rfl rfl rfl rfl rfl ?_
 refine a_storeOw 1 Tryz.sizeOf30 rfl rfl rfl rfl rfl rfl rfl ?_
 refine a_storeOw 0 Tryz.sizeOf30 rfl rfl rfl rfl rfl rfl rfl ?_
 refine aw_nil ?_
 refine ac_seq (ac_reg ?_)
 refine w_ (p_loadOw 2 Tryz.isAgg30 Tryz.sizeOf30 rfl rfl rfl rfl rfl) ?_
 refine w_ (p_loadOw 1 Tryz.isAgg30 Tryz.sizeOf30 rfl rfl rfl rfl rfl) ?_
 refine w_ (p_call Tryz.func71 rfl rfl rfl rfl (d_whole_Cmp (isInt_n _) (isInt_n _) (Nat.le_trans (isz_mul _ _) (by have := ha.1; have := hb.2; omega)) (Nat.le_trans (isz_mul _ _) (by have := hb.1; have := ha.2; omega))) rfl) ?_
 refine w_ (p_assign rfl rfl) ?_
 refine aw_nil ?_
 refine ac_ret ?_
 exact retB_1 Tryz.results44 (rv_tmp rfl rfl) (rfl)
theorem d_ratio_Max {b1 b2 : Bool} {l1 l2 : List Nat} {n d : Int} (h1 : IsInt (.bool b1) (u32r l1) n) (h2 : IsInt (.bool b2) (u32r l2) d) (hn : isz n ≤ 4294967295) (hd : isz d ≤ 4294967295) : Does Tryz.prog 23 [.agg [.bool b1, u32r l1, .bool b2, u32r l2], .one (.row ([]))] (.agg [sg (((ratOf n d)).num), mg (((ratOf n d)).num), sg ((((ratOf n d)).den : Int)), mg ((((ratOf n d)).den : Int))]) := by
 refine does_ (n := 24) Tryz.func23 rfl Tryz.ntmps23 rfl ?_
 refine ac_seq (ac_reg ?_)
 refine w_ (p_boxS rfl rfl rfl rfl) ?_
 refine a_alloc Tryz.zeroValue41 rfl rfl fun g1 => ?_
 refine aw_nil ?_
 refine ac_seq (ac_reg ?_)
 refine w_ (p_loadSh Tryz.isAgg41 Tryz.sizeOf41 rfl rfl rfl rfl) ?_
 refine w_ (p_call Tryz.func43 rfl rfl rfl rfl (d_ratio_norm h1 h2 hn hd) rfl) ?_
 refine a_alloc Tryz.zeroValue41 rfl rfl fun g2 => ?_
 refine a_storeOw 0 Tryz.sizeOf41 rfl rfl rfl rfl rfl rfl rfl ?_
 refine aw_nil ?_
 refine ac_seq (ac_seq (ac_reg ?_))
 refine w_ (p_move rfl rfl) ?_
 refine w_ (p_len (m := 0) Tryz.runUnderlying109 rfl rfl rfl) ?_
 refine w_ (p_move rfl rfl) ?_
 refine aw_nil ?_
 refine ac_block ?_
 refine ac_pick [4, 5, 11, 12] rfl ?_
 refine ac_loop (fun m L B => m = 0 ∧ L = [(4, .one (.ow g1 0)), (5, .one (.ow g2 0)), (11, .one (.int .i64 (((0 : Nat) : Int)))), (12, .one (.int .i64 0))] ∧ B = [.blk g2 41 [sg (((ratOf n d)).num), mg (((ratOf n d)).num), sg ((((ratOf n d)).den : Int)), mg ((((ratOf n d)).den : Int))], .blk g1 41 [.bool false, .nils, .bool false, .nils]]) (m := _) ⟨rfl, rfl, rfl⟩ ?_
 rintro m L B ⟨hm, rfl, rfl⟩
 skip
 skip
 refine ac_seq (ac_reg ?_)
 refine w_ (p_cmp rfl rfl rfl rfl) ?_
 refine aw_nil ?_
 refine ac_seq ?_
 refine ac_f rfl (rfl) ?_
 refine ac_exit ?_
 repeat refine seqQ_exit ?_
 refine blkQ_here ?_
 refine ac_seq (ac_reg ?_)
 refine w_ (p_loadOw 0 Tryz.isAgg41 Tryz.sizeOf41 rfl rfl rfl rfl rfl) ?_
 refine a_storeOw 1 Tryz.sizeOf41 rfl rfl rfl rfl rfl rfl rfl ?_
 refine aw_nil ?_
 refine ac_ret ?_
 exact retB_1 Tryz.results23 (rv_cell 1 Tryz.isAgg41 Tryz.sizeOf41 rfl rfl rfl rfl rfl) (rfl)
theorem d_ratio_Max1 {q : Rat} (hq : Qs 4294967295 q) : Does Tryz.prog 23 [.agg (rl q), .one (.row [])] (.agg (rl q)) := by
 have h := d_ratio_Max (isInt_n q.num) (isInt_n (q.den : Int)) hq.1 hq.2
 rwa [ratOf_q] at h
theorem d_poly_plain {q : Rat} (hq : Qs 4294967295 q) : Does Tryz.prog 105 [.agg [sg q.num, mg q.num, sg ((q.den : Int)), mg ((q.den : Int))]] (.agg [sg q.num, mg q.num, sg ((q.den : Int)), mg ((q.den : Int))]) := by
 refine does_ (n := 5) Tryz.func105 rfl Tryz.ntmps105 rfl ?_
 refine ac_seq (ac_reg ?_)
 refine w_ (p_boxS rfl rfl rfl rfl) ?_
 refine a_alloc Tryz.zeroValue41 rfl rfl fun g1 => ?_
 refine aw_nil ?_
 refine ac_seq (ac_reg ?_)
 refine w_ (p_loadSh Tryz.isAgg41 Tryz.sizeOf41 rfl rfl rfl rfl) ?_
 refine w_ (p_call Tryz.func23 rfl rfl rfl rfl (d_ratio_Max1 (hq)) rfl) ?_
 refine a_storeOw 0 Tryz.sizeOf41 rfl rfl rfl rfl rfl rfl rfl ?_
 refine aw_nil ?_
 refine ac_ret ?_
 exact retB_1 Tryz.results105 (rv_cell 0 Tryz.isAgg41 Tryz.sizeOf41 rfl rfl rfl rfl rfl) (rfl)
set_option maxRecDepth 20000 in
theorem d_poly_Sign {p : List Int} {q : Rat} {s t : Nat} (tp : Trim p) (hl : p.length < 274877906944) (hp : Bd s p) (hq : Qs t q) (hst : s + p.length * (t + 1) + 2 * t + 10 ≤ 4294967295) : Does Tryz.prog 74 [.one (pl p), .agg [sg q.num, mg q.num, sg ((q.den : Int)), mg ((q.den : Int))]] (.one (.int .i64 (psign p q))) := by
 refine does_ (n := 16) Tryz.func74 rfl Tryz.ntmps74 rfl ?_
 refine ac_seq (ac_reg ?_)
 refine a_box rfl rfl rfl fun g1 => ?_
 refine w_ (p_assign rfl rfl) ?_
 refine aw_nil ?_
 refine ac_seq (ac_reg ?_)
 refine w_ (p_loadOw 0 Tryz.isAgg41 Tryz.sizeOf41 rfl rfl rfl rfl rfl) ?_
 refine w_ (p_call Tryz.func105 rfl rfl rfl rfl (d_poly_plain (hq.mono (by omega))) rfl) ?_
 refine a_storeOw 0 Tryz.sizeOf41 rfl rfl rfl rfl rfl rfl rfl ?_
 refine aw_nil ?_
 refine ac_seq ?_
 refine ac_draw mixed_ 8 [7, 8, 9, 10, 11, 12, 13, 14] [[], [0], [], [2], [], [4], [1, 3, 5], []] [.one (pl p), .one (pl p), .one (.ow g1 0), .agg [sg q.num, mg q.num], .one (.ow g1 2), .agg [sg ((q.den : Int)), mg ((q.den : Int))], .agg [sg (pval p q.num ((q.den : Int))), mg (pval p q.num ((q.den : Int)))], .agg [.bool false, .nils]] rfl rfl rfl ⟨p_move rfl rfl, p_call Tryz.func33 rfl rfl rfl rfl (d_poly_NormT tp hl (bd_mono hp (by omega))) rfl, p_fieldOw fa_41_0 rfl rfl, p_loadOw 0 Tryz.isAgg30 Tryz.sizeOf30 rfl rfl rfl rfl rfl, p_fieldOw fa_41_1 rfl rfl, p_loadOw 0 Tryz.isAgg30 Tryz.sizeOf30 rfl rfl rfl rfl rfl, p_call Tryz.func106 rfl rfl rfl rfl (d_poly_value (hl) (hp) (hq.1) (hq.2) (hst)) rfl, p_build (bd_30) rfl rfl rfl rfl, trivial⟩ rfl ?_
 refine w_ (p_call Tryz.func71 rfl rfl rfl rfl (d_whole_Cmp (isInt_n _) isInt_zero (Nat.le_trans (valk_bd hp hq.1 hq.2).1 (by omega)) (by decide)) rfl) ?_
 refine w_ (p_assign rfl rfl) ?_
 refine aw_nil ?_
 refine ac_ret ?_
 exact retB_1 Tryz.results74 (rv_tmp rfl rfl) (rfl)
end Orr

namespace Orr
open Go
variable {P : Program} {ops : Array Oper} {n : Nat} {rest : List Oper} {N : Sg → List OB → Prop} {L : Sg} {B : List OB} {Q : Exit → Sg → List OB → Prop}
variable {d : Nat} {ty : TypeId} {pos : String} {after : Array Edge}
theorem AP.frame {o : Oper} {u : AV} (h : AP P ops n o d u L B) : ∀ (K Ob : Nat → Prop) (w0 w : World) (a : Act) (Bx Bs : List Blk) (L' : List (Nat × Value)) (Fs : List Fact), St K Ob w0 w a n L' Fs (Bx ++ Bs) →
    (∀ t x, lk L t = some x → ∃ v, look L' t = some v ∧ ARep w (owns Ob (Bx ++ Bs)) v x) → BsRep w (owns Ob (Bx ++ Bs)) B Bs →
    wpList P ops (fun e a' w' => e = .normal ∧ ∃ v, St K Ob w0 w' a' n ((d, v) :: L') Fs (Bx ++ Bs) ∧ ARep w' (owns Ob (Bx ++ Bs)) v u) [o] a w := by
  intro K Ob w0 w a Bx Bs L' Fs hs hL hB
  have e : owns (owns Ob Bx) Bs = owns Ob (Bx ++ Bs) := by
    funext b
    simp only [owns, List.map_append, List.mem_append]
    exact propext ⟨fun h => by rcases h with (h | h) | h <;> simp [h], fun h => by rcases h with h | h | h <;> simp [h]⟩
  have hnd := hs.nodup
  rw [List.map_append, List.nodup_append] at hnd
  have hst : St (fun b => b < w.heap.size ∧ b ∉ Bs.map (·.1)) (owns Ob Bx) w w a n L' Fs Bs := by
    refine ⟨hs.size, hs.defers, hs.slots, Nat.le_refl _, fun _ _ => rfl, fun g T cs hm => ?_, hnd.2.1, fun f hf => ?_, fun b hb => hb.1, fun b hb => ?_, fun b hb ho => ?_, rfl, rfl⟩
    · obtain ⟨_, h2, h3⟩ := hs.own g T cs (List.mem_append.2 (.inr hm))
      exact ⟨fun hk => hk.2 (List.mem_map.2 ⟨_, hm, rfl⟩), h2, h3⟩
    · rw [e]; exact hs.facts f hf
    · refine hs.owns_lt ?_
      simp only [owns, List.map_append, List.mem_append]
      exact hb.imp id .inl
    · rcases ho with ho | ho
      · exact hs.ownO b (by simp only [List.map_append, List.mem_append]; exact .inr hb) ho
      · exact hnd.2.2 b ho b hb rfl
  have key := h _ (owns Ob Bx) w w a Bs L' Fs hst (by rw [e]; exact hL) (by rw [e]; exact hB)
  refine wp_next hs.defers (R := fun a' w' => ∃ v, St _ (owns Ob Bx) w w' a' n ((d, v) :: L') Fs Bs ∧ ARep w' (owns (owns Ob Bx) Bs) v u) (fun a w ⟨v, h, _⟩ => h.defers) key fun a' w' ⟨v, h1, h2⟩ => wpList_nil ⟨rfl, v, ?_, by rw [← e]; exact h2⟩
  refine ⟨h1.size, h1.defers, h1.slots, Nat.le_trans hs.wsize h1.wsize, fun b hb => ?_, fun g T cs hm => ?_, hs.nodup, fun f hf => by rw [← e]; exact h1.facts f hf, hs.base, hs.obase, hs.ownO, h1.io.1.trans hs.io.1, h1.io.2.trans hs.io.2⟩
  · refine (h1.grow b ⟨Nat.lt_of_lt_of_le (hs.base b hb) hs.wsize, fun hm => ?_⟩).trans (hs.grow b hb)
    obtain ⟨⟨g, T, cs⟩, hg, rfl⟩ := List.mem_map.1 hm
    exact (hs.own g T cs (List.mem_append.2 (.inr hg))).1 hb
  · obtain ⟨h3, h4, h5⟩ := hs.own g T cs hm
    rcases List.mem_append.1 hm with hm | hm
    · refine ⟨h3, Nat.lt_of_lt_of_le h4 h1.wsize, (h1.grow g ⟨h4, fun hb => ?_⟩).trans h5⟩
      exact hnd.2.2 g (List.mem_map.2 ⟨_, hm, rfl⟩) g hb rfl
    · exact ⟨h3, (h1.own g T cs hm).2.1, (h1.own g T cs hm).2.2⟩
def gOf : Value → Nat
  | .pointer (some p) => p.block
  | _ => 0
abbrev Made := List (Nat × Nat × List Value)
def mkB (As : Made) (p : Nat → Bool) (v : Nat → Value) : List Blk := (As.filter fun x => p x.1).map fun x => (gOf (v x.1), Tag.ty x.2.1, x.2.2)
def findA : Made → Nat → Option (Nat × List Value)
  | [], _ => none
  | x :: As, i => match Nat.beq x.1 i with
    | true => some x.2
    | false => findA As i
theorem mkB_other : ∀ {As : Made} {i : Nat} (p : Nat → Bool) (v : Nat → Value) (u : Value), findA As i = none → mkB As (fun j => j == i || p j) (fun j => if j = i then u else v j) = mkB As p v
  | [], _, _, _, _, _ => rfl
  | x :: As, i, p, v, u, h => by
    simp only [findA] at h
    split at h
    · cases h
    · rename_i e
      have ih := mkB_other (As := As) p v u h
      have hne : x.1 ≠ i := Nat.ne_of_beq_eq_false e
      unfold mkB at ih ⊢
      have e1 : (x.1 == i || p x.1) = p x.1 := by simp [hne]
      cases hp : p x.1
      · rw [List.filter_cons_of_neg (by simp [hne, hp]), List.filter_cons_of_neg (by simp [hp]), ih]
      · rw [List.filter_cons_of_pos (by simp [hp]), List.filter_cons_of_pos (by simp [hp]), List.map_cons, List.map_cons, ih]
        simp only [hne, if_false]
theorem mkB_new : ∀ {As : Made} {i T : Nat} {cs : List Value} (p : Nat → Bool) (v : Nat → Value) (g : Nat), (As.map (·.1)).Nodup → findA As i = some (T, cs) → p i = false →
    (mkB As (fun j => j == i || p j) (fun j => if j = i then .pointer (some ⟨g, 0, none⟩) else v j)).Perm ((g, Tag.ty T, cs) :: mkB As p v)
  | [], _, _, _, _, _, _, _, h, _ => by cases h
  | x :: As, i, T, cs, p, v, g, hn, h, hp => by
    rw [List.map_cons, List.nodup_cons] at hn
    simp only [findA] at h
    split at h
    · rename_i e
      have e : x.1 = i := Nat.eq_of_beq_eq_true e
      injection h with h
      have hnone : findA As i = none := by
        have : ∀ (As : Made), i ∉ As.map (·.1) → findA As i = none := by
          intro As
          induction As with
          | nil => intro _; rfl
          | cons y As ih =>
            intro hm
            simp only [List.map_cons, List.mem_cons, not_or] at hm
            simp only [findA]
            have : Nat.beq y.1 i = false := by
              cases hb : Nat.beq y.1 i
              · rfl
              · exact absurd (Nat.eq_of_beq_eq_true hb).symm hm.1
            rw [this]; exact ih hm.2
        exact this As (by rw [← e]; exact hn.1)
      have ih := mkB_other (As := As) p v (.pointer (some ⟨g, 0, none⟩)) hnone
      unfold mkB at ih ⊢
      rw [List.filter_cons_of_pos (by simp [e]), List.filter_cons_of_neg (by rw [e, hp]; simp), List.map_cons, ih]
      simp only [e, if_true, h, gOf]
      exact .refl _
    · rename_i e
      have hne : x.1 ≠ i := Nat.ne_of_beq_eq_false e
      have ih := mkB_new (As := As) p v g hn.2 h hp
      unfold mkB at ih ⊢
      cases hpx : p x.1
      · rw [List.filter_cons_of_neg (by simp [hne, hpx]), List.filter_cons_of_neg (by simp [hpx])]; exact ih
      · rw [List.filter_cons_of_pos (by simp [hpx]), List.filter_cons_of_pos (by simp [hpx]), List.map_cons, List.map_cons]
        simp only [hne, if_false]
        exact (ih.cons _).trans (List.Perm.swap ..)
def AL (P : Program) (ops : Array Oper) (n : Nat) (o : Oper) (d T : Nat) (cs : List Value) : Prop :=
  ∀ (K Ob : Nat → Prop) (w0 w : World) (a : Act) (Bs : List Blk) (L' : List (Nat × Value)) (Fs : List Fact), St K Ob w0 w a n L' Fs Bs →
    wpList P ops (fun e a' w' => e = .normal ∧ ∃ g, St K Ob w0 w' a' n ((d, .pointer (some ⟨g, 0, none⟩)) :: L') Fs ((g, Tag.ty T, cs) :: Bs)) [o] a w
theorem al_alloc {T : TypeId} {z : Value} (hz : ∀ w, (zeroValue T).run P w = .ok z w) (hd : Nat.blt d n = true) : AL P ops n { dst := some d, op := .alloc T, type := ty, pos := pos, after := after, guard := none } d T z.cells.toList :=
  fun K Ob w0 w a Bs L' Fs h => st_alloc h hz hd fun g w' a' h' => wpList_nil ⟨rfl, g, h'⟩
def DOp (P : Program) (ops : Array Oper) (n : Nat) (L : Sg) (B : List OB) (As : Made) (i d : Nat) (u : AV) (dep : Sg) (o : Oper) : Prop :=
  match findA As i with
  | some (T, cs) => AL P ops n o d T cs
  | none => AP P ops n o d u (dep ++ L) B
def DOps (P : Program) (ops : Array Oper) (n : Nat) (L : Sg) (B : List OB) (As : Made) (D : List Nat) (us : List AV) : Nat → List (List (Nat × AV)) → List Oper → Prop
  | i, dep :: deps, o :: os => DOp P ops n L B As i (D.getD i 0) (us.getD i .un) dep o ∧ DOps P ops n L B As D us (i + 1) deps os
  | _, _, _ => True
def dF (As : Made) (i : Nat) (u : AV) (v : Value) : Fact := match findA As i with
  | some _ => ⟨fun _ _ => ∃ g, v = .pointer (some ⟨g, 0, none⟩), fun _ h => h⟩
  | none => avF u v
def dFs (As : Made) : Nat → List AV → List (Value → Fact)
  | _, [] => []
  | i, u :: us => dF As i u :: dFs As (i + 1) us
theorem dFs_get (As : Made) : ∀ {us : List AV} {k i : Nat} {u : AV}, us[i]? = some u → (dFs As k us)[i]? = some (dF As (k + i) u)
  | [], _, _, _, h => by simp at h
  | x :: us, k, 0, u, h => by simp at h; subst h; rfl
  | x :: us, k, i + 1, u, h => by
    have := dFs_get As (us := us) (k := k + 1) (i := i) (by simpa using h)
    rw [show k + (i + 1) = k + 1 + i from by omega]
    simpa [dFs] using this
def made (As : Made) : List (List LV) → (Nat → Nat) → Option (List OB)
  | [], _ => match As with
    | [] => some []
    | _ => none
  | zs :: r, g => match As with
    | [] => none
    | x :: As => match made As r g with
      | some B => some (.blk (g x.1) x.2.1 zs :: B)
      | none => none
def zlAll : Made → List (List LV) → Prop
  | [], [] => True
  | x :: As, zs :: r => zl.zls x.2.2 = some zs ∧ zlAll As r
  | _, _ => False
theorem made_rep {w : World} {O : Nat → Prop} {g : Nat → Nat} : ∀ {As : Made} {zss : List (List LV)} {B1 : List OB}, zlAll As zss → made As zss g = some B1 → ∀ {B : List OB} {Bs : List Blk}, BsRep w O B Bs → BsRep w O (B1 ++ B) (As.map (fun x => (g x.1, Tag.ty x.2.1, x.2.2)) ++ Bs)
  | [], [], B1, _, h, B, Bs, hB => by simp [made] at h; subst h; exact hB
  | x :: As, zs :: r, B1, hz, h, B, Bs, hB => by
    simp only [made] at h
    split at h
    · rename_i q hq
      injection h with h; subst h
      exact ⟨[(g x.1, Tag.ty x.2.1, x.2.2)], _, rfl, ⟨_, rfl, zls_of hz.1⟩, made_rep hz.2 hq hB⟩
    · cases h
  | [], _ :: _, _, h, _, _, _, _ => h.elim
  | _ :: _, [], _, h, _, _, _, _ => h.elim
def slotsA (As : Made) (g : Nat → Nat) : Nat → List Nat → List AV → Sg → Option Sg
  | _, [], [], L => some L
  | i, d :: D, u :: us, L => match slotsA As g (i + 1) D us L with
    | some r => match findA As i with
      | some _ => some ((d, .one (.ow (g i) 0)) :: r)
      | none => some ((d, u) :: r)
    | none => none
  | _, _, _, _ => none
theorem lk_slotsA {w : World} {O : Nat → Prop} {As : Made} {g : Nat → Nat} {v : Nat → Value} {L : Sg} {L2 : List (Nat × Value)} (hL : ∀ t x, lk L t = some x → ∃ y, look L2 t = some y ∧ ARep w O y x) : ∀ {D : List Nat} {us : List AV} {i : Nat} {L3 : Sg}, slotsA As g i D us L = some L3 →
    (∀ j, j < D.length → findA As (i + j) = none → ARep w O (v (i + j)) (us.getD j .un)) → (∀ j, j < D.length → (findA As (i + j)).isSome = true → v (i + j) = .pointer (some ⟨g (i + j), 0, none⟩)) →
    ∀ t x, lk L3 t = some x → ∃ y, look ((List.range' i D.length).map (fun j => (D.getD (j - i) 0, v j)) ++ L2) t = some y ∧ ARep w O y x
  | [], [], i, L3, h, _, _, t, x, hx => by simp [slotsA] at h; subst h; simpa using hL t x hx
  | d :: D, u :: us, i, L3, h, h1, h2, t, x, hx => by
    simp only [slotsA] at h
    split at h
    · rename_i r hr
      have ih := lk_slotsA hL hr (fun j hj hf => by
        have := h1 (j + 1) (by simp; omega) (by rw [show i + (j + 1) = i + 1 + j from by omega]; exact hf)
        rw [show i + (j + 1) = i + 1 + j from by omega] at this
        simpa using this) (fun j hj hf => by
        have := h2 (j + 1) (by simp; omega) (by rw [show i + (j + 1) = i + 1 + j from by omega]; exact hf)
        rwa [show i + (j + 1) = i + 1 + j from by omega] at this)
      have hrange : (List.range' i (d :: D).length).map (fun j => ((d :: D).getD (j - i) 0, v j)) = (d, v i) :: (List.range' (i + 1) D.length).map (fun j => (D.getD (j - (i + 1)) 0, v j)) := by
        rw [List.length_cons, List.range'_succ, List.map_cons, Nat.sub_self]
        congr 1
        refine List.map_congr_left fun j hj => ?_
        have := List.mem_range'_1.1 hj
        rw [show j - i = (j - (i + 1)) + 1 from by omega]
        simp
      rw [hrange]
      have key : ∀ u', (ARep w O (v i) u') → lk ((d, u') :: r) t = some x → ∃ y, look ((d, v i) :: (List.range' (i + 1) D.length).map (fun j => (D.getD (j - (i + 1)) 0, v j)) ++ L2) t = some y ∧ ARep w O y x := by
        intro u' hu hx
        simp only [lk] at hx
        simp only [List.cons_append, look]
        cases e : Nat.beq t d <;> rw [e] at hx
        · exact ih t x hx
        · injection hx with hx; subst hx; exact ⟨_, rfl, hu⟩
      split at h
      · rename_i q hq
        injection h with h; subst h
        have := h2 0 (by simp) (by rw [Nat.add_zero, hq]; rfl)
        rw [Nat.add_zero] at this
        exact key (.one (.ow (g i) 0)) this hx
      · rename_i hq
        injection h with h; subst h
        have := h1 0 (by simp) (by rw [Nat.add_zero]; exact hq)
        rw [Nat.add_zero] at this
        exact key _ (by simpa using this) hx
    · cases h
  | [], _ :: _, _, _, h, _, _, _, _, _ => by simp [slotsA] at h
  | _ :: _, [], _, _, h, _, _, _, _, _ => by simp [slotsA] at h
theorem ac_drawA {id : Nat} {l : List Oper} (hm : P.follows .mixedOrders = true) (m : Nat) (D : List Nat) (deps : List (List Nat)) (us : List AV) (As : Made) (zss : List (List LV)) (hchk : chkDraw l m (D.map some) deps = true)
    (hDm : (Nat.beq D.length m && Nat.beq us.length m && deps.all fun js => js.all fun j => Nat.blt j m && (findA As j).isNone) = true) (hAs : (As.all fun x => Nat.blt x.1 m) = true) (hnd : (As.map (·.1)).Nodup) (hzl : zlAll As zss) (hnone : (D.all fun t => (lk L t).isNone) = true)
    (hops : DOps P l.toArray n L B As D us 0 (depsOf D us deps) (l.take m))
    (k : ∀ g : Nat → Nat, ∃ L2 B1, slotsA As g 0 D us L = some L2 ∧ made As zss g = some B1 ∧ AW P l.toArray n (l.drop m) (fun L B => Q .normal L B) L2 (B1 ++ B)) : AC P n (.region id l.toArray true) Q L B := by
  rintro K Ob w0 w a ⟨L', Bs, h, hL, hB⟩
  simp only [Bool.and_eq_true, List.all_eq_true] at hDm hnone hAs
  obtain ⟨⟨hD, hU⟩, hdl⟩ := hDm
  have hD := Nat.eq_of_beq_eq_true hD
  have hU := Nat.eq_of_beq_eq_true hU
  have hdl1 : ∀ js ∈ deps, ∀ j ∈ js, j < m := fun js hj j hjj => by have := (hdl js hj j hjj).1; rwa [Nat.blt_eq] at this
  have hdl2 : ∀ js ∈ deps, ∀ j ∈ js, findA As j = none := fun js hj j hjj => by have := (hdl js hj j hjj).2; rwa [Option.isNone_iff_eq_none] at this
  obtain ⟨L3, h1, h2, h3⟩ := only L hL
  have hst : St K Ob w0 w a n L3 [] Bs := { h with slots := fun t v hv => h.slots t v (h2 t v hv) }
  have hst2 := hst.add (f := SF L L3 B Bs [] []) ⟨h3, hB, trivial⟩
  have hc := chk_of hchk
  have hS : ∀ i, (hi : i < m) → (dFs As 0 us).getD i noF = dF As i (us[i]'(by rw [hU]; exact hi)) := fun i hi => by
    have := dFs_get As (us := us) (k := 0) (i := i) (List.getElem?_eq_getElem (by rw [hU]; exact hi))
    rw [List.getD_eq_getElem?_getD, this, Nat.zero_add]; rfl
  have hus : ∀ i, (hi : i < m) → us.getD i .un = us[i]'(by rw [hU]; exact hi) := fun i hi => by
    rw [List.getD_eq_getElem?_getD, List.getElem?_eq_getElem (by rw [hU]; exact hi)]; rfl
  have hget : ∀ (os : List Oper) (ds : List (List (Nat × AV))) (k : Nat), DOps P l.toArray n L B As D us k ds os → ∀ (i : Nat) dep o, ds[i]? = some dep → os[i]? = some o → DOp P l.toArray n L B As (k + i) (D.getD (k + i) 0) (us.getD (k + i) .un) dep o := by
    intro os
    induction os with
    | nil => intro ds k _ i dep o _ ho; simp at ho
    | cons o os ih =>
      intro ds k hap i dep o' hd ho
      rcases ds with _ | ⟨dp, ds⟩
      · simp at hd
      · cases i with
        | zero => simp at hd ho; subst hd ho; exact hap.1
        | succ i =>
          have := ih ds (k + 1) hap.2 i dep o' (by simpa using hd) (by simpa using ho)
          rw [show k + (i + 1) = k + 1 + i from by omega]
          exact this
  have hdraw1 : ∀ (i : Nat) (dj : List Nat) (o : Oper), deps[i]? = some dj → l[i]? = some o → i < m → DrawOp P l.toArray K Ob w0 n L3 [SF L L3 B Bs [] []] (fun p v => mkB As p v ++ Bs) (D.map some) (dFs As 0 us) i dj o := by
    intro i dj o hd ho hi p hpi _ v Fx a' w' hs
    have hop := hget (l.take m) _ 0 hops i _ o (depsOf_get hd) (by rw [List.getElem?_take, if_pos hi]; exact ho)
    rw [Nat.zero_add] at hop
    have hjm := hdl1 dj (List.mem_of_getElem? hd)
    have hjn := hdl2 dj (List.mem_of_getElem? hd)
    rw [dL_some D v dj fun j hj => by rw [hD]; exact hjm j hj] at hs
    have hfacts : ∀ j ∈ dj, ARep w' (owns Ob (mkB As p v ++ Bs)) (v j) (us.getD j .un) := fun j hj => by
      have := hs.facts ((dFs As 0 us).getD j noF (v j)) (List.mem_append.2 (.inl (List.mem_map.2 ⟨j, hj, rfl⟩)))
      rw [hS j (hjm j hj)] at this
      unfold dF at this
      rw [hjn j hj] at this
      rw [hus j (hjm j hj)]
      exact this
    obtain ⟨h6, h7, _⟩ : (SF L L3 B Bs [] []).holds w' (owns Ob (mkB As p v ++ Bs)) := hs.facts _ (List.mem_append.2 (.inr (by simp)))
    have hdk := dd_some D i (by rw [hD]; exact hi)
    unfold DOp at hop
    cases hf : findA As i with
    | none =>
      rw [hf] at hop
      have hw := AP.frame hop K Ob w0 w' a' (mkB As p v) Bs _ _ hs (lk_dep h6 hfacts) h7
      refine wp_next hs.defers (fun _ _ ⟨_, hh, _⟩ => hh.defers) hw fun a2 w2 hh => ?_
      obtain ⟨x, h8, h9⟩ := hh
      refine wpList_nil ⟨rfl, x, ?_⟩
      simp only [mkB_other (As := As) p v x hf]
      rw [if_pos hdk.2, hdk.1, hS i hi]
      rw [hus i hi] at h9
      refine h8.drawEnd (by simp [look]) ?_
      unfold dF; rw [hf]; exact h9
    | some q =>
      obtain ⟨T, cs⟩ := q
      rw [hf] at hop
      have hw := hop K Ob w0 w' a' (mkB As p v ++ Bs) _ _ hs
      refine wp_next hs.defers (fun _ _ ⟨_, hh⟩ => hh.defers) hw fun a2 w2 hh => ?_
      obtain ⟨g, h8⟩ := hh
      refine wpList_nil ⟨rfl, .pointer (some ⟨g, 0, none⟩), ?_⟩
      have hp := mkB_new (As := As) p v g hnd hf hpi
      rw [if_pos hdk.2, hdk.1, hS i hi]
      have h9 := h8.perm (Bs' := mkB As (fun j => j == i || p j) (fun j => if j = i then .pointer (some ⟨g, 0, none⟩) else v j) ++ Bs) (hp.append_right Bs)
      refine h9.drawEnd (by simp [look]) ?_
      unfold dF; rw [hf]; exact ⟨g, rfl⟩
  have hdrawops : ∀ (js : List (List Nat)) (os : List Oper) (k : Nat), (∀ i dj o, js[i]? = some dj → os[i]? = some o → DrawOp P l.toArray K Ob w0 n L3 [SF L L3 B Bs [] []] (fun p v => mkB As p v ++ Bs) (D.map some) (dFs As 0 us) (k + i) dj o) →
      DrawOps P l.toArray K Ob w0 n L3 [SF L L3 B Bs [] []] (fun p v => mkB As p v ++ Bs) (D.map some) (dFs As 0 us) k js os := by
    intro js
    induction js with
    | nil => intro os k _; cases os <;> trivial
    | cons dj js ih =>
      intro os k hall
      rcases os with _ | ⟨o, os⟩
      · trivial
      · refine ⟨by have := hall 0 dj o rfl rfl; rwa [Nat.add_zero] at this, ih os (k + 1) fun i dj' o' hd ho => ?_⟩
        have := hall (i + 1) dj' o' (by simpa using hd) (by simpa using ho)
        rwa [show k + (i + 1) = k + 1 + i from by omega] at this
  refine draw_ hm m (D.map some) deps (dFs As 0 us) (fun p v => mkB As p v ++ Bs) hchk hst2 (fun v => by simp [mkB]) ?_ (hdrawops deps l 0 fun i dj o hd ho => by
    rw [Nat.zero_add]
    exact hdraw1 i dj o hd ho (by have := (List.getElem?_eq_some_iff.1 hd).1; rw [hc.deplen] at this; exact this)) fun p hp v a' w' hs => ?_
  · rw [List.all_eq_true]
    intro j hj
    have hjm : j < m := List.mem_range.1 hj
    rw [(dd_some D j (by rw [hD]; exact hjm)).1]
    have hmem : D.getD j 0 ∈ D := by rw [List.getD_eq_getElem?_getD, List.getElem?_eq_getElem (by rw [hD]; exact hjm)]; exact List.getElem_mem _
    have := hnone _ hmem
    rw [Option.isNone_iff_eq_none] at this
    rw [h1 _ this]; simp
  · rw [dL_some D v _ fun j hj => by rw [hD]; exact List.mem_range.1 hj] at hs
    let g : Nat → Nat := fun j => gOf (v j)
    have hall : mkB As p v = As.map fun x => (g x.1, Tag.ty x.2.1, x.2.2) := by
      unfold mkB
      rw [List.filter_eq_self.2 fun x hx => hp x.1 (by have := hAs x hx; rwa [Nat.blt_eq] at this)]
    have hf1 : ∀ j, j < D.length → findA As (0 + j) = none → ARep w' (owns Ob (mkB As p v ++ Bs)) (v (0 + j)) (us.getD j .un) := fun j hj hf => by
      rw [Nat.zero_add] at hf ⊢
      have hjm : j < m := by omega
      have := hs.facts ((dFs As 0 us).getD j noF (v j)) (List.mem_append.2 (.inl (List.mem_map.2 ⟨j, List.mem_range.2 hjm, rfl⟩)))
      rw [hS j hjm] at this
      unfold dF at this
      rw [hf] at this
      rw [hus j hjm]
      exact this
    have hf2 : ∀ j, j < D.length → (findA As (0 + j)).isSome = true → v (0 + j) = .pointer (some ⟨g (0 + j), 0, none⟩) := fun j hj hf => by
      rw [Nat.zero_add] at hf ⊢
      have hjm : j < m := by omega
      have := hs.facts ((dFs As 0 us).getD j noF (v j)) (List.mem_append.2 (.inl (List.mem_map.2 ⟨j, List.mem_range.2 hjm, rfl⟩)))
      rw [hS j hjm] at this
      unfold dF at this
      cases hq : findA As j with
      | none => rw [hq] at hf; cases hf
      | some q =>
        rw [hq] at this
        obtain ⟨g', hg⟩ := this
        show v j = .pointer (some ⟨gOf (v j), 0, none⟩)
        rw [hg]; rfl
    obtain ⟨h6, h7, _⟩ : (SF L L3 B Bs [] []).holds w' (owns Ob (mkB As p v ++ Bs)) := hs.facts _ (List.mem_append.2 (.inr (by simp)))
    obtain ⟨L2, B1, hk1, hk2, hk3⟩ := k g
    have hlk := lk_slotsA h6 hk1 hf1 hf2
    have hr : List.range' 0 D.length = List.range m := by rw [List.range_eq_range', hD]
    rw [hr] at hlk
    simp only [Nat.sub_zero] at hlk
    have hB2 := made_rep (w := w') (O := owns Ob (mkB As p v ++ Bs)) hzl hk2 h7
    rw [← hall] at hB2
    exact hk3 K Ob w0 w' a' _ ⟨_, mkB As p v ++ Bs, hs.noFacts, hlk, hB2⟩ fun a2 w2 h => h
theorem a_lit {T E size len : Nat} {z : Value} {zs r : List LV} {ps : List (Nat × Operand)} {us : List (Nat × AV)} {ls : List (List LV)} (hu : ∀ w, (underlying T).run P w = .ok (.slice E) w) (hs : ∀ w, (Go.sizeOf E).run P w = .ok size w) (hz : ∀ w, (zeroValue E).run P w = .ok z w)
    (hz1 : zl z = some zs) (hz2 : Nat.beq zs.length size = true) (hsz : Nat.blt 0 size = true) (hl : Nat.ble (len * size) 16777216 = true) (hl0 : Nat.blt 0 len = true) (hx : evAp L ps = some us) (hf : fillL (fun i => some (i * size, size)) (zrep len zs) us = some r)
    (hc : chunkL size len r = some ls) (hfr : freeLs ls = true) (hd : Nat.blt d n = true) (k : ∀ r, AW P ops n rest N ((d, .one (.orow r size 0 len)) :: L) (.row r E size ls :: B)) :
    AW P ops n ({ dst := some d, op := .buildSlice T len ps.toArray, type := ty, pos := pos, after := after, guard := none } :: rest) N L B := by
  rintro K Ob w0 w a Q ⟨L', Bs, h, hL, hB⟩ hQ
  have hz2 := Nat.eq_of_beq_eq_true hz2
  have hsz : 0 < size := by rwa [Nat.blt_eq] at hsz
  have hl := Nat.le_of_ble_eq_true hl
  have hl0 : 0 < len := by rwa [Nat.blt_eq] at hl0
  obtain ⟨vs, h1, h2, h3⟩ := evp_of hL hx
  have hzr := zl_of (w := w) (O := owns Ob Bs) hz1
  have hzl := hzr.len
  obtain ⟨cells, h4, h5⟩ := fillL_of (w := w) (O := owns Ob Bs) hf (zrep_of hzr len) h2 h3
  have h6 := fill_of h4
  obtain ⟨vss, rfl, h7, h8, h9⟩ := chunk_of h5 hc
  have hadd := h.add (f := ⟨fun w O => (∀ t x, lk L t = some x → ∃ v, look L' t = some v ∧ ARep w O v x) ∧ BsRep w O B Bs ∧ RReps w O vss ls, fun hle h => ⟨keep_of hle h.1, h.2.1.keep hle, h.2.2.keep hle⟩⟩) ⟨hL, hB, h7⟩
  refine st_buildSlice hadd h1 (fun w => buildSlice_run (size := size) (zs := z.cells.toList) hu hs hz (by simp) (by rw [hzl]; exact hz2) hsz hl hl0 h6 w) hd fun g w' a' h' => ?_
  obtain ⟨h10, h11, h12⟩ := h'.fact 0 rfl
  have hll : len ≤ 16777216 := Nat.le_trans (Nat.le_mul_of_pos_right len hsz) hl
  have h63 : (2 : Nat) ^ 63 = 9223372036854775808 := by decide
  refine k (some (g, len)) _ _ _ _ _ _ (SA.of (Bo := [_]) h'.noFacts (put_of h10 ?_) ?_ h11) hQ
  · exact ⟨by omega, 0, rfl, fun _ => by simp⟩
  · exact ⟨hsz, h8, freeLs_of hfr, vss, [], h12, by simp, by rw [List.append_nil, flat_len (sz := size) (h12.all h8), h12.len, h9], by omega, by omega⟩
end Orr
namespace Orr
open Go
variable {P : Program} {n : Nat} {L : Sg} {B : List OB} {Q : Exit → Sg → List OB → Prop} {c : Code}
theorem ac_ownNil (ts : List Nat) (E sz : Nat) {L2 : Sg} (hsz : Nat.blt 0 sz = true) (hts : allAre L (.one .nils) ts) (hL2 : putL ts (.one (.orow none sz 0 0)) L = some L2) (k : AC P n c Q L2 (.row none E sz [] :: B)) : AC P n c Q L B := by
  rintro K Ob w0 w a ⟨L', Bs, h, hL, hB⟩
  rw [Nat.blt_eq] at hsz
  refine k _ _ _ _ _ ⟨L', Bs, h, fun t u hu => ?_, ⟨[], Bs, rfl, ⟨hsz, rfl, rfl⟩, hB⟩⟩
  rcases lk_putL hL2 t u hu with ⟨hm, rfl⟩ | hu
  · obtain ⟨v, hv, hr⟩ := hL t _ (allAre_get hts t hm)
    have hr : LRep w _ v .nils := hr
    cases hr
    exact ⟨_, hv, rfl, rfl, rfl⟩
  · exact hL t u hu
theorem ac_pub (i : Nat) (ts : List Nat) {r : Option (Nat × Nat)} {E sz len : Nat} {ls : List (List LV)} {B' : List OB} {L2 : Sg} (hi : frontB B i = some (.row r E sz ls, B')) (hts : allAre L (.one (.orow r sz 0 len)) ts) (hlen : len = ls.length) (h47 : ls.length < 140737488355328)
    (hL2 : putL ts (.one (.row ls)) L = some L2) (k : AC P n c Q L2 B') : AC P n c Q L B := by
  intro K Ob w0 w a hs
  subst hlen
  obtain ⟨L', Bo, Bs, h1, h2, h3, h4⟩ := hs.front hi
  have hle : Le w (owns Ob (Bo ++ Bs)) w (owns Ob Bs) := ⟨Nat.le_refl _, fun _ _ _ => rfl, fun b _ ho => ho.imp id fun hm => by simp only [List.map_append, List.mem_append]; exact .inr hm⟩
  refine k _ _ _ _ _ ⟨L', Bs, h1.tailB, fun t u hu => ?_, h4.keep hle⟩
  rcases lk_putL hL2 t u hu with ⟨hm, rfl⟩ | hu
  · obtain ⟨v, hv, hr⟩ := h2 t _ (allAre_get hts t hm)
    have := row_rep h1 h3 hr rfl (by omega) h47
    rw [List.drop_zero, List.take_length] at this
    exact ⟨v, hv, this⟩
  · exact keep_of hle h2 t u hu
theorem ac_blk (i : Nat) {g : Nat} {T : TypeId} {xs zs ys : List LV} {B' : List OB} (hi : frontB B i = some (.blk g T xs, B')) (hun : unNilL xs = some zs) (he : zs = ys) (k : AC P n c Q L (.blk g T ys :: B')) : AC P n c Q L B := by
  intro K Ob w0 w a hs
  subst he
  obtain ⟨L', Bo, Bs, h1, h2, ⟨cs, rfl, h3⟩, h4⟩ := hs.front hi
  exact k _ _ _ _ _ (SA.of h1 h2 ⟨cs, rfl, unNilL_of hun h3⟩ h4)
end Orr
namespace Orr
open Go
variable {P : Program} {ops : Array Oper} {n : Nat} {rest : List Oper} {N : Sg → List OB → Prop} {L : Sg} {B : List OB} {Q : Exit → Sg → List OB → Prop} {c : Code}
theorem SA.slotEq {K Ob : Nat → Prop} {w0 w : World} {a : Act} (h : SA K Ob w0 w a n L B) {t : Nat} {x y : AV} (ht : lk L t = some x) (he : x = y) : SA K Ob w0 w a n ((t, y) :: L) B := by
  subst he
  obtain ⟨L', Bs, h1, h2, h3⟩ := h
  refine ⟨L', Bs, h1, fun s u hu => ?_, h3⟩
  simp only [lk] at hu
  cases e : Nat.beq s t <;> rw [e] at hu
  · exact h2 s u hu
  · injection hu with hu; subst hu; rw [Nat.eq_of_beq_eq_true e]; exact h2 t _ ht
theorem aw_slotEq (t : Nat) {x y : AV} (ht : lk L t = some x) (he : x = y) (k : AW P ops n rest N ((t, y) :: L) B) : AW P ops n rest N L B := fun _ _ _ _ _ _ hs hQ => k _ _ _ _ _ _ (hs.slotEq ht he) hQ
theorem ac_slotEq (t : Nat) {x y : AV} (ht : lk L t = some x) (he : x = y) (k : AC P n c Q ((t, y) :: L) B) : AC P n c Q L B := fun _ _ _ _ _ hs => k _ _ _ _ _ (hs.slotEq ht he)
end Orr

namespace Orr
open Go Go.Proofs
theorem map_getD_div (p : List Int) (g : Int) : (List.range p.length).map (fun k => p.getD k 0 / g) = p.map (· / g) := by
 conv => rhs; rw [← map_getD p]
 simp
theorem d_curve_over {p : List Int} {g : Int} (hl : p.length < 274877906944) (hp : Bd 4294967295 p) (hg : isz g ≤ 4294967295) (h0 : g ≠ 0) (hd : ∀ z ∈ p, z % g = 0) : Does Tryz.prog 38 [.one (pl p), .agg [sg g, mg g]] (.one (pl (trim (p.map (· / g))))) := by
 refine does_ (n := 30) Tryz.func38 rfl Tryz.ntmps38 rfl ?_
 refine ac_seq (ac_reg ?_)
 refine w_ (p_boxS rfl rfl rfl rfl) ?_
 refine w_ (p_assign rfl rfl) ?_
 refine aw_nil ?_
 refine ac_seq (ac_reg ?_)
 refine w_ (p_move rfl rfl) ?_
 refine w_ (p_len (m := p.length) Tryz.runUnderlying27 rfl (rlen_pl _) rfl) ?_
 refine a_make (p.length) Tryz.runUnderlying27 Tryz.typeInfo30 rfl Tryz.sizeOf30 Tryz.zeroValue30 rfl rfl rfl rfl rfl rfl (rfl) (rfl) (hl) rfl fun r1 => ?_
 refine aw_zeros (ls' := (tab (fun k => p.getD k 0 / g) p.length 0).map ofI) 0 rfl rfl (by rw [← tab_zero]; exact zeros_I _) ?_
 refine w_ (p_assign rfl rfl) ?_
 refine aw_nil ?_
 refine ac_seq (ac_seq (ac_reg ?_))
 refine w_ (p_move rfl rfl) ?_
 refine w_ (p_len (m := p.length) Tryz.runUnderlying27 rfl (rlen_pl _) rfl) ?_
 refine w_ (p_move rfl rfl) ?_
 refine aw_nil ?_
 refine ac_block ?_
 refine ac_pick [3, 5, 11, 12, 13] rfl ?_
 refine ac_loop (fun m L B => ∃ i, i ≤ p.length ∧ m = p.length - i ∧ L = [(3, .one (.sh [sg g, mg g])), (5, .one (.orow r1 2 0 p.length)), (11, .one (pl p)), (12, .one (.int .i64 (((p.length : Nat) : Int)))), (13, .one (.int .i64 ((i : Int))))] ∧ B = [.row r1 30 2 ((tab (fun k => p.getD k 0 / g) p.length i).map ofI)]) (m := _) ⟨0, Nat.zero_le _, rfl, rfl, rfl⟩ ?_
 rintro m L B ⟨i, hp0, hm, rfl, rfl⟩
 by_cases hlt : i < p.length
 ·skip
  refine ac_seq (ac_reg ?_)
  refine w_ (p_cmp rfl rfl rfl rfl) ?_
  refine aw_nil ?_
  refine ac_seq ?_
  refine ac_t rfl (decide_eq_true (by omega)) ?_
  refine ac_skip ?_
  refine ac_seq (ac_block (ac_seq (ac_reg ?_)))
  refine w_ (p_move rfl rfl) ?_
  refine w_ (p_index (i) Tryz.runUnderlying27 Tryz.sizeOf30 rfl rfl (rfl) (map_get (getD_some hlt)) rfl rfl) ?_
  refine w_ (p_loadSh Tryz.isAgg30 Tryz.sizeOf30 rfl rfl rfl rfl) ?_
  refine a_alloc Tryz.zeroValue30 rfl rfl fun g2 => ?_
  refine w_ (p_assign rfl rfl) ?_
  refine a_storeOw 0 Tryz.sizeOf30 rfl rfl rfl rfl rfl rfl rfl ?_
  refine aw_nil ?_
  refine ac_reg ?_
  refine w_ (p_move rfl rfl) ?_
  refine w_ (p_move rfl rfl) ?_
  refine w_ (p_loadOw 0 Tryz.isAgg30 Tryz.sizeOf30 rfl rfl rfl rfl rfl) ?_
  refine w_ (p_loadSh Tryz.isAgg30 Tryz.sizeOf30 rfl rfl rfl rfl) ?_
  refine w_ (p_call Tryz.func37 rfl rfl rfl rfl (d_whole_Exact (isInt_n _) (isInt_n _) (bd_getD hp i) (hg) (h0) (hd _ (List.mem_of_getElem? (getD_some hlt)))) rfl) ?_
  refine w_ (p_move rfl rfl) ?_
  refine w_ (p_extract rfl rfl rfl) ?_
  refine w_ (p_extract rfl rfl rfl) ?_
  refine w_ (p_indexO (i) Tryz.runUnderlying27 Tryz.sizeOf30 rfl rfl (rfl) (by omega) rfl) ?_
  refine a_storeO (ls2 := (tab (fun k => p.getD k 0 / g) p.length (i + 1)).map ofI) 1 Tryz.sizeOf30 rfl rfl rfl rfl rfl rfl (by rw [Nat.zero_add]; exact map_get (tab_get _ hlt)) rfl (by rw [Nat.zero_add]; exact (set_map ofI _ i (p.getD i 0 / g)).trans (by rw [← tab_set _ hlt])) ?_
  refine aw_nil ?_
  refine ac_reg ?_
  refine w_ (p_add (r := ((i + 1 : Nat) : Int)) rfl rfl (i64_is (by omega) (by omega)) rfl) ?_
  refine w_ (p_move rfl rfl) ?_
  refine aw_pick [3, 5, 11, 12, 13] rfl ?_
  refine aw_drop 1 rfl ?_
  refine aw_nil ?_
  refine ⟨_, ?_, i + 1, by omega, rfl, rfl, rfl⟩
  omega
 skip
 refine ac_seq (ac_reg ?_)
 refine w_ (p_cmp rfl rfl rfl rfl) ?_
 refine aw_nil ?_
 refine ac_seq ?_
 refine ac_f rfl (decide_eq_false (by omega)) ?_
 refine ac_exit ?_
 repeat refine seqQ_exit ?_
 refine blkQ_here ?_
 refine ac_seq (ac_reg ?_)
 refine w_ (p_move rfl rfl) ?_
 have htab : (tab (fun k => p.getD k 0 / g) p.length i) = p.map (· / g) := by rw [show i = p.length from by omega, tab_all, map_getD_div]
 refine aw_pub 0 [28] rfl (allAre1 rfl) (by rw [List.length_map, tab_len _ (by omega)]) (by rw [List.length_map, tab_len _ (by omega)]; omega) rfl ?_
 refine w_ (p_call Tryz.func33 rfl rfl rfl rfl (d_poly_NormN (by rw [tab_len _ (by omega)]; exact hl) (by rw [htab]; exact bd_div hp g)) rfl) ?_
 refine w_ (p_assign rfl rfl) ?_
 refine aw_nil ?_
 refine ac_ret ?_
 exact retB_1 Tryz.results38 (rv_tmp rfl rfl) (by rw [htab])
set_option maxRecDepth 20000 in
theorem d_curve_norm {lx ly : List (List LV)} {px py : List Int} {b : Bool} {l : List Nat} {d : Int} (hx : IsInts lx px) (hy : IsInts ly py) (hd : IsInt (.bool b) (u32r l) d) (hk : Cs 4294967294 1073741824 (Crv.mk px py d)) : Does Tryz.prog 19 [.agg [.row lx, .row ly, .bool b, u32r l]] (.agg [pl (((Crv.norm (Crv.mk px py d))).x), pl (((Crv.norm (Crv.mk px py d))).y), sg (((Crv.norm (Crv.mk px py d))).d), mg (((Crv.norm (Crv.mk px py d))).d)]) := by
 refine does_ (n := 44) Tryz.func19 rfl Tryz.ntmps19 rfl ?_
 have hlx := hk.lx
 have hly := hk.ly
 simp only at hlx hly
 have htx := trim_len px
 have hty := trim_len py
 have hd1 : isz (Crv.mk px py d).d' ≤ 4294967295 := Nat.le_trans (isz_d' hk.d (by omega)) (by omega)
 have hg1 := Crv.isz_g (Crv.mk px py d) hd1
 have hgs : isz ((gcdL ((Crv.mk px py d).d' :: (trim px ++ trim py)) : Nat) : Int) ≤ 4294967295 := by
  have := hg1
  unfold Crv.g at this
  split at this
  ·rwa [isz_neg] at this
  ·exact this
 by_cases h0 : d = 0
 ·skip
  rcases Int.lt_or_gt_of_ne (Crv.d'_ne (Crv.mk px py d)) with hneg | hpos
  ·skip
   refine ac_seq (ac_reg ?_)
   refine w_ (p_boxS rfl rfl rfl rfl) ?_
   refine a_alloc Tryz.zeroValue32 rfl rfl fun g1 => ?_
   refine aw_nil ?_
   refine ac_seq ?_
   refine ac_drawA mixed_ 10 [7, 8, 9, 10, 11, 12, 13, 14, 15, 5] [[], [0], [1], [], [3], [4], [], [6], [7], []] [.one (.sh [.row lx, .row ly, .bool b, u32r l]), .one (.row lx), .one (pl (trim px)), .one (.sh [.row ly, .bool b, u32r l]), .one (.row ly), .one (pl (trim py)), .one (.sh [.bool b, u32r l]), .agg [.bool b, u32r l], .agg [sg d, mg d], .un] [(9, 30, [.bool false, .slice none 0 0])] [[.bool false, .nils]] rfl rfl rfl (by decide) ⟨rfl, trivial⟩ rfl ⟨p_fieldSh fa_32_0 rfl rfl rfl, p_loadSh Tryz.isAgg27 Tryz.sizeOf27 rfl rfl rfl rfl, p_call Tryz.func33 rfl rfl rfl rfl (d_poly_Norm hx (by omega) (bd_mono hk.x (by omega))) rfl, p_fieldSh fa_32_1 rfl rfl rfl, p_loadSh Tryz.isAgg27 Tryz.sizeOf27 rfl rfl rfl rfl, p_call Tryz.func33 rfl rfl rfl rfl (d_poly_Norm hy (by omega) (bd_mono hk.y (by omega))) rfl, p_fieldSh fa_32_2 rfl rfl rfl, p_loadSh Tryz.isAgg30 Tryz.sizeOf30 rfl rfl rfl rfl, p_call Tryz.func34 rfl rfl rfl rfl (d_whole_Norm hd (Nat.le_trans hk.d (by omega))) rfl, al_alloc Tryz.zeroValue30 rfl, trivial⟩ fun g2 => ⟨_, _, rfl, rfl, ?_⟩
   refine w_ (p_assign rfl rfl) ?_
   refine w_ (p_assign rfl rfl) ?_
   refine a_storeOw 0 Tryz.sizeOf30 rfl rfl rfl rfl rfl rfl rfl ?_
   refine aw_nil ?_
   refine ac_seq (ac_seq (ac_reg ?_))
   refine w_ (p_loadOw 0 Tryz.isAgg30 Tryz.sizeOf30 rfl rfl rfl rfl rfl) ?_
   refine w_ (p_call Tryz.func35 rfl rfl rfl rfl ((d_ZeroN _) ) rfl) ?_
   refine aw_nil ?_
   refine ac_t rfl (decide_eq_true h0) ?_
   refine ac_reg ?_
   refine w_ (p_call Tryz.func20 rfl rfl rfl rfl (d_whole_Of (by omega)) rfl) ?_
   refine a_storeOw 0 Tryz.sizeOf30 rfl rfl rfl rfl rfl rfl rfl ?_
   refine aw_blk (ys := ofI ((Crv.mk px py d).d')) 0 rfl rfl (by unfold Crv.d'; rw [if_pos h0]) ?_
   refine aw_nil ?_
   refine ac_seq (ac_reg ?_)
   refine w_ (p_loadOw 0 Tryz.isAgg30 Tryz.sizeOf30 rfl rfl rfl rfl rfl) ?_
   refine a_lit Tryz.runUnderlying26 Tryz.sizeOf30 Tryz.zeroValue30 rfl rfl rfl rfl rfl rfl rfl rfl rfl rfl fun r3 => ?_
   refine w_ (p_move rfl rfl) ?_
   refine a_append (ls2 := ((Crv.mk px py d).d' :: trim px).map ofI) (m2 := 1 + (trim px).length) 0 Tryz.runUnderlying26 Tryz.runUnderlying27 Tryz.typeInfo30 rfl rfl Tryz.sizeOf30 Tryz.zeroValue30 rfl rfl rfl rfl rfl rfl rfl (Nat.le_refl _) (map_w _ (fun _ => rfl)) (map_f _ (fun _ => rfl)) (by rw [List.length_map]; omega) (rfl) (by rw [List.length_map]) fun r4 => ?_
   refine w_ (p_move rfl rfl) ?_
   refine a_append (ls2 := ((Crv.mk px py d).d' :: (trim px ++ trim py)).map ofI) (m2 := 1 + (trim px).length + (trim py).length) 0 Tryz.runUnderlying26 Tryz.runUnderlying27 Tryz.typeInfo30 rfl rfl Tryz.sizeOf30 Tryz.zeroValue30 rfl rfl rfl rfl rfl rfl rfl (by simp; omega) (map_w _ (fun _ => rfl)) (map_f _ (fun _ => rfl)) (by rw [List.length_map]; omega) (by rw [List.take_of_length_le (by simp; omega)]; simp) (by rw [List.length_map]) fun r5 => ?_
   refine aw_pub 0 [24] rfl (allAre1 rfl) (by simp; omega) (by simp; omega) rfl ?_
   refine w_ (p_call Tryz.func36 rfl rfl rfl rfl (d_whole_Gcd (isInts_n ((Crv.mk px py d).d' :: (trim px ++ trim py))) (by
     intro z hz
     rcases List.mem_cons.1 hz with rfl | hz
     ·exact hd1
     ·rcases List.mem_append.1 hz with hz | hz
      ·exact Nat.le_trans (bd_trim hk.x z hz) (by omega)
      ·exact Nat.le_trans (bd_trim hk.y z hz) (by omega))) rfl) ?_
   refine a_alloc Tryz.zeroValue30 rfl rfl fun g6 => ?_
   refine a_storeOw 0 Tryz.sizeOf30 rfl rfl rfl rfl rfl rfl rfl ?_
   refine aw_nil ?_
   refine ac_seq (ac_seq (ac_reg ?_))
   refine w_ (p_fieldOw fa_30_0 rfl rfl) ?_
   refine w_ (p_loadOw 1 Tryz.isAgg4 Tryz.sizeOf4 rfl rfl rfl rfl rfl) ?_
   refine aw_nil ?_
   refine ac_t rfl (decide_eq_true hneg) ?_
   refine ac_reg ?_
   refine w_ (p_loadOw 0 Tryz.isAgg30 Tryz.sizeOf30 rfl rfl rfl rfl rfl) ?_
   refine w_ (p_call Tryz.func24 rfl rfl rfl rfl (d_whole_Neg (isInt_n _) (hgs)) rfl) ?_
   refine a_storeOw 0 Tryz.sizeOf30 rfl rfl rfl rfl rfl rfl rfl ?_
   refine aw_blk (ys := ofI ((Crv.mk px py d).g)) 0 rfl rfl (by unfold Crv.g; rw [if_pos hneg]) ?_
   refine aw_nil ?_
   refine ac_seq (ac_reg ?_)
   refine w_ (p_loadOw 1 Tryz.isAgg30 Tryz.sizeOf30 rfl rfl rfl rfl rfl) ?_
   refine w_ (p_loadOw 0 Tryz.isAgg30 Tryz.sizeOf30 rfl rfl rfl rfl rfl) ?_
   refine w_ (p_call Tryz.func37 rfl rfl rfl rfl (d_whole_Exact (isInt_n _) (isInt_n _) (hd1) (hg1) (Crv.g_ne _) (Crv.g_dvd _ _ (List.mem_cons_self ..))) rfl) ?_
   refine w_ (p_move rfl rfl) ?_
   refine w_ (p_extract rfl rfl rfl) ?_
   refine w_ (p_extract rfl rfl rfl) ?_
   refine a_storeOw 1 Tryz.sizeOf30 rfl rfl rfl rfl rfl rfl rfl ?_
   refine aw_nil ?_
   refine ac_seq ?_
   refine ac_draw mixed_ 7 [36, 37, 38, 39, 40, 41, 42] [[], [], [0, 1], [], [], [3, 4], []] [.one (pl (trim px)), .agg [sg ((Crv.mk px py d).g), mg ((Crv.mk px py d).g)], .one (pl (trim ((trim px).map (· / ((Crv.mk px py d).g))))), .one (pl (trim py)), .agg [sg ((Crv.mk px py d).g), mg ((Crv.mk px py d).g)], .one (pl (trim ((trim py).map (· / ((Crv.mk px py d).g))))), .agg [sg (((Crv.mk px py d).d') / ((Crv.mk px py d).g)), mg (((Crv.mk px py d).d') / ((Crv.mk px py d).g))]] rfl rfl rfl ⟨p_move rfl rfl, p_loadOw 0 Tryz.isAgg30 Tryz.sizeOf30 rfl rfl rfl rfl rfl, p_call Tryz.func38 rfl rfl rfl rfl (d_curve_over (by omega) (bd_mono (bd_trim hk.x) (by omega)) (hg1) (Crv.g_ne _) (fun z hz => Crv.g_dvd (Crv.mk px py d) z (by simp [hz]))) rfl, p_move rfl rfl, p_loadOw 0 Tryz.isAgg30 Tryz.sizeOf30 rfl rfl rfl rfl rfl, p_call Tryz.func38 rfl rfl rfl rfl (d_curve_over (by omega) (bd_mono (bd_trim hk.y) (by omega)) (hg1) (Crv.g_ne _) (fun z hz => Crv.g_dvd (Crv.mk px py d) z (by simp [hz]))) rfl, p_loadOw 1 Tryz.isAgg30 Tryz.sizeOf30 rfl rfl rfl rfl rfl, trivial⟩ rfl ?_
   refine w_ (p_build (bd_32) rfl rfl rfl rfl) ?_
   refine a_storeOw 2 Tryz.sizeOf32 rfl rfl rfl rfl rfl rfl rfl ?_
   refine aw_nil ?_
   refine ac_ret ?_
   exact retB_1 Tryz.results19 (rv_cell 2 Tryz.isAgg32 Tryz.sizeOf32 rfl rfl rfl rfl rfl) (rfl)
  skip
  refine ac_seq (ac_reg ?_)
  refine w_ (p_boxS rfl rfl rfl rfl) ?_
  refine a_alloc Tryz.zeroValue32 rfl rfl fun g7 => ?_
  refine aw_nil ?_
  refine ac_seq ?_
  refine ac_drawA mixed_ 10 [7, 8, 9, 10, 11, 12, 13, 14, 15, 5] [[], [0], [1], [], [3], [4], [], [6], [7], []] [.one (.sh [.row lx, .row ly, .bool b, u32r l]), .one (.row lx), .one (pl (trim px)), .one (.sh [.row ly, .bool b, u32r l]), .one (.row ly), .one (pl (trim py)), .one (.sh [.bool b, u32r l]), .agg [.bool b, u32r l], .agg [sg d, mg d], .un] [(9, 30, [.bool false, .slice none 0 0])] [[.bool false, .nils]] rfl rfl rfl (by decide) ⟨rfl, trivial⟩ rfl ⟨p_fieldSh fa_32_0 rfl rfl rfl, p_loadSh Tryz.isAgg27 Tryz.sizeOf27 rfl rfl rfl rfl, p_call Tryz.func33 rfl rfl rfl rfl (d_poly_Norm hx (by omega) (bd_mono hk.x (by omega))) rfl, p_fieldSh fa_32_1 rfl rfl rfl, p_loadSh Tryz.isAgg27 Tryz.sizeOf27 rfl rfl rfl rfl, p_call Tryz.func33 rfl rfl rfl rfl (d_poly_Norm hy (by omega) (bd_mono hk.y (by omega))) rfl, p_fieldSh fa_32_2 rfl rfl rfl, p_loadSh Tryz.isAgg30 Tryz.sizeOf30 rfl rfl rfl rfl, p_call Tryz.func34 rfl rfl rfl rfl (d_whole_Norm hd (Nat.le_trans hk.d (by omega))) rfl, al_alloc Tryz.zeroValue30 rfl, trivial⟩ fun g8 => ⟨_, _, rfl, rfl, ?_⟩
  refine w_ (p_assign rfl rfl) ?_
  refine w_ (p_assign rfl rfl) ?_
  refine a_storeOw 0 Tryz.sizeOf30 rfl rfl rfl rfl rfl rfl rfl ?_
  refine aw_nil ?_
  refine ac_seq (ac_seq (ac_reg ?_))
  refine w_ (p_loadOw 0 Tryz.isAgg30 Tryz.sizeOf30 rfl rfl rfl rfl rfl) ?_
  refine w_ (p_call Tryz.func35 rfl rfl rfl rfl ((d_ZeroN _) ) rfl) ?_
  refine aw_nil ?_
  refine ac_t rfl (decide_eq_true h0) ?_
  refine ac_reg ?_
  refine w_ (p_call Tryz.func20 rfl rfl rfl rfl (d_whole_Of (by omega)) rfl) ?_
  refine a_storeOw 0 Tryz.sizeOf30 rfl rfl rfl rfl rfl rfl rfl ?_
  refine aw_blk (ys := ofI ((Crv.mk px py d).d')) 0 rfl rfl (by unfold Crv.d'; rw [if_pos h0]) ?_
  refine aw_nil ?_
  refine ac_seq (ac_reg ?_)
  refine w_ (p_loadOw 0 Tryz.isAgg30 Tryz.sizeOf30 rfl rfl rfl rfl rfl) ?_
  refine a_lit Tryz.runUnderlying26 Tryz.sizeOf30 Tryz.zeroValue30 rfl rfl rfl rfl rfl rfl rfl rfl rfl rfl fun r9 => ?_
  refine w_ (p_move rfl rfl) ?_
  refine a_append (ls2 := ((Crv.mk px py d).d' :: trim px).map ofI) (m2 := 1 + (trim px).length) 0 Tryz.runUnderlying26 Tryz.runUnderlying27 Tryz.typeInfo30 rfl rfl Tryz.sizeOf30 Tryz.zeroValue30 rfl rfl rfl rfl rfl rfl rfl (Nat.le_refl _) (map_w _ (fun _ => rfl)) (map_f _ (fun _ => rfl)) (by rw [List.length_map]; omega) (rfl) (by rw [List.length_map]) fun r10 => ?_
  refine w_ (p_move rfl rfl) ?_
  refine a_append (ls2 := ((Crv.mk px py d).d' :: (trim px ++ trim py)).map ofI) (m2 := 1 + (trim px).length + (trim py).length) 0 Tryz.runUnderlying26 Tryz.runUnderlying27 Tryz.typeInfo30 rfl rfl Tryz.sizeOf30 Tryz.zeroValue30 rfl rfl rfl rfl rfl rfl rfl (by simp; omega) (map_w _ (fun _ => rfl)) (map_f _ (fun _ => rfl)) (by rw [List.length_map]; omega) (by rw [List.take_of_length_le (by simp; omega)]; simp) (by rw [List.length_map]) fun r11 => ?_
  refine aw_pub 0 [24] rfl (allAre1 rfl) (by simp; omega) (by simp; omega) rfl ?_
  refine w_ (p_call Tryz.func36 rfl rfl rfl rfl (d_whole_Gcd (isInts_n ((Crv.mk px py d).d' :: (trim px ++ trim py))) (by
    intro z hz
    rcases List.mem_cons.1 hz with rfl | hz
    ·exact hd1
    ·rcases List.mem_append.1 hz with hz | hz
     ·exact Nat.le_trans (bd_trim hk.x z hz) (by omega)
     ·exact Nat.le_trans (bd_trim hk.y z hz) (by omega))) rfl) ?_
  refine a_alloc Tryz.zeroValue30 rfl rfl fun g12 => ?_
  refine a_storeOw 0 Tryz.sizeOf30 rfl rfl rfl rfl rfl rfl rfl ?_
  refine aw_blk (ys := ofI ((Crv.mk px py d).g)) 0 rfl rfl (by unfold Crv.g; rw [if_neg (by omega)]) ?_
  refine aw_nil ?_
  refine ac_seq (ac_seq (ac_reg ?_))
  refine w_ (p_fieldOw fa_30_0 rfl rfl) ?_
  refine w_ (p_loadOw 1 Tryz.isAgg4 Tryz.sizeOf4 rfl rfl rfl rfl rfl) ?_
  refine aw_nil ?_
  refine ac_f rfl (decide_eq_false (by omega)) ?_
  refine ac_skip ?_
  refine ac_seq (ac_reg ?_)
  refine w_ (p_loadOw 1 Tryz.isAgg30 Tryz.sizeOf30 rfl rfl rfl rfl rfl) ?_
  refine w_ (p_loadOw 0 Tryz.isAgg30 Tryz.sizeOf30 rfl rfl rfl rfl rfl) ?_
  refine w_ (p_call Tryz.func37 rfl rfl rfl rfl (d_whole_Exact (isInt_n _) (isInt_n _) (hd1) (hg1) (Crv.g_ne _) (Crv.g_dvd _ _ (List.mem_cons_self ..))) rfl) ?_
  refine w_ (p_move rfl rfl) ?_
  refine w_ (p_extract rfl rfl rfl) ?_
  refine w_ (p_extract rfl rfl rfl) ?_
  refine a_storeOw 1 Tryz.sizeOf30 rfl rfl rfl rfl rfl rfl rfl ?_
  refine aw_nil ?_
  refine ac_seq ?_
  refine ac_draw mixed_ 7 [36, 37, 38, 39, 40, 41, 42] [[], [], [0, 1], [], [], [3, 4], []] [.one (pl (trim px)), .agg [sg ((Crv.mk px py d).g), mg ((Crv.mk px py d).g)], .one (pl (trim ((trim px).map (· / ((Crv.mk px py d).g))))), .one (pl (trim py)), .agg [sg ((Crv.mk px py d).g), mg ((Crv.mk px py d).g)], .one (pl (trim ((trim py).map (· / ((Crv.mk px py d).g))))), .agg [sg (((Crv.mk px py d).d') / ((Crv.mk px py d).g)), mg (((Crv.mk px py d).d') / ((Crv.mk px py d).g))]] rfl rfl rfl ⟨p_move rfl rfl, p_loadOw 0 Tryz.isAgg30 Tryz.sizeOf30 rfl rfl rfl rfl rfl, p_call Tryz.func38 rfl rfl rfl rfl (d_curve_over (by omega) (bd_mono (bd_trim hk.x) (by omega)) (hg1) (Crv.g_ne _) (fun z hz => Crv.g_dvd (Crv.mk px py d) z (by simp [hz]))) rfl, p_move rfl rfl, p_loadOw 0 Tryz.isAgg30 Tryz.sizeOf30 rfl rfl rfl rfl rfl, p_call Tryz.func38 rfl rfl rfl rfl (d_curve_over (by omega) (bd_mono (bd_trim hk.y) (by omega)) (hg1) (Crv.g_ne _) (fun z hz => Crv.g_dvd (Crv.mk px py d) z (by simp [hz]))) rfl, p_loadOw 1 Tryz.isAgg30 Tryz.sizeOf30 rfl rfl rfl rfl rfl, trivial⟩ rfl ?_
  refine w_ (p_build (bd_32) rfl rfl rfl rfl) ?_
  refine a_storeOw 2 Tryz.sizeOf32 rfl rfl rfl rfl rfl rfl rfl ?_
  refine aw_nil ?_
  refine ac_ret ?_
  exact retB_1 Tryz.results19 (rv_cell 2 Tryz.isAgg32 Tryz.sizeOf32 rfl rfl rfl rfl rfl) (rfl)
 have h0' : ¬ ((Crv.mk px py d).d' = 0) := Crv.d'_ne _
 rcases Int.lt_or_gt_of_ne (Crv.d'_ne (Crv.mk px py d)) with hneg | hpos
 ·skip
  refine ac_seq (ac_reg ?_)
  refine w_ (p_boxS rfl rfl rfl rfl) ?_
  refine a_alloc Tryz.zeroValue32 rfl rfl fun g13 => ?_
  refine aw_nil ?_
  refine ac_seq ?_
  refine ac_drawA mixed_ 10 [7, 8, 9, 10, 11, 12, 13, 14, 15, 5] [[], [0], [1], [], [3], [4], [], [6], [7], []] [.one (.sh [.row lx, .row ly, .bool b, u32r l]), .one (.row lx), .one (pl (trim px)), .one (.sh [.row ly, .bool b, u32r l]), .one (.row ly), .one (pl (trim py)), .one (.sh [.bool b, u32r l]), .agg [.bool b, u32r l], .agg [sg d, mg d], .un] [(9, 30, [.bool false, .slice none 0 0])] [[.bool false, .nils]] rfl rfl rfl (by decide) ⟨rfl, trivial⟩ rfl ⟨p_fieldSh fa_32_0 rfl rfl rfl, p_loadSh Tryz.isAgg27 Tryz.sizeOf27 rfl rfl rfl rfl, p_call Tryz.func33 rfl rfl rfl rfl (d_poly_Norm hx (by omega) (bd_mono hk.x (by omega))) rfl, p_fieldSh fa_32_1 rfl rfl rfl, p_loadSh Tryz.isAgg27 Tryz.sizeOf27 rfl rfl rfl rfl, p_call Tryz.func33 rfl rfl rfl rfl (d_poly_Norm hy (by omega) (bd_mono hk.y (by omega))) rfl, p_fieldSh fa_32_2 rfl rfl rfl, p_loadSh Tryz.isAgg30 Tryz.sizeOf30 rfl rfl rfl rfl, p_call Tryz.func34 rfl rfl rfl rfl (d_whole_Norm hd (Nat.le_trans hk.d (by omega))) rfl, al_alloc Tryz.zeroValue30 rfl, trivial⟩ fun g14 => ⟨_, _, rfl, rfl, ?_⟩
  refine w_ (p_assign rfl rfl) ?_
  refine w_ (p_assign rfl rfl) ?_
  refine a_storeOw 0 Tryz.sizeOf30 rfl rfl rfl rfl rfl rfl rfl ?_
  refine aw_blk (ys := ofI ((Crv.mk px py d).d')) 0 rfl rfl (by unfold Crv.d'; rw [if_neg h0]) ?_
  refine aw_nil ?_
  refine ac_seq (ac_seq (ac_reg ?_))
  refine w_ (p_loadOw 0 Tryz.isAgg30 Tryz.sizeOf30 rfl rfl rfl rfl rfl) ?_
  refine w_ (p_call Tryz.func35 rfl rfl rfl rfl (d_ZeroN _) rfl) ?_
  refine aw_nil ?_
  refine ac_f rfl (decide_eq_false h0') ?_
  refine ac_skip ?_
  refine ac_seq (ac_reg ?_)
  refine w_ (p_loadOw 0 Tryz.isAgg30 Tryz.sizeOf30 rfl rfl rfl rfl rfl) ?_
  refine a_lit Tryz.runUnderlying26 Tryz.sizeOf30 Tryz.zeroValue30 rfl rfl rfl rfl rfl rfl rfl rfl rfl rfl fun r15 => ?_
  refine w_ (p_move rfl rfl) ?_
  refine a_append (ls2 := ((Crv.mk px py d).d' :: trim px).map ofI) (m2 := 1 + (trim px).length) 0 Tryz.runUnderlying26 Tryz.runUnderlying27 Tryz.typeInfo30 rfl rfl Tryz.sizeOf30 Tryz.zeroValue30 rfl rfl rfl rfl rfl rfl rfl (Nat.le_refl _) (map_w _ (fun _ => rfl)) (map_f _ (fun _ => rfl)) (by rw [List.length_map]; omega) (rfl) (by rw [List.length_map]) fun r16 => ?_
  refine w_ (p_move rfl rfl) ?_
  refine a_append (ls2 := ((Crv.mk px py d).d' :: (trim px ++ trim py)).map ofI) (m2 := 1 + (trim px).length + (trim py).length) 0 Tryz.runUnderlying26 Tryz.runUnderlying27 Tryz.typeInfo30 rfl rfl Tryz.sizeOf30 Tryz.zeroValue30 rfl rfl rfl rfl rfl rfl rfl (by simp; omega) (map_w _ (fun _ => rfl)) (map_f _ (fun _ => rfl)) (by rw [List.length_map]; omega) (by rw [List.take_of_length_le (by simp; omega)]; simp) (by rw [List.length_map]) fun r17 => ?_
  refine aw_pub 0 [24] rfl (allAre1 rfl) (by simp; omega) (by simp; omega) rfl ?_
  refine w_ (p_call Tryz.func36 rfl rfl rfl rfl (d_whole_Gcd (isInts_n ((Crv.mk px py d).d' :: (trim px ++ trim py))) (by
    intro z hz
    rcases List.mem_cons.1 hz with rfl | hz
    ·exact hd1
    ·rcases List.mem_append.1 hz with hz | hz
     ·exact Nat.le_trans (bd_trim hk.x z hz) (by omega)
     ·exact Nat.le_trans (bd_trim hk.y z hz) (by omega))) rfl) ?_
  refine a_alloc Tryz.zeroValue30 rfl rfl fun g18 => ?_
  refine a_storeOw 0 Tryz.sizeOf30 rfl rfl rfl rfl rfl rfl rfl ?_
  refine aw_nil ?_
  refine ac_seq (ac_seq (ac_reg ?_))
  refine w_ (p_fieldOw fa_30_0 rfl rfl) ?_
  refine w_ (p_loadOw 1 Tryz.isAgg4 Tryz.sizeOf4 rfl rfl rfl rfl rfl) ?_
  refine aw_nil ?_
  refine ac_t rfl (decide_eq_true hneg) ?_
  refine ac_reg ?_
  refine w_ (p_loadOw 0 Tryz.isAgg30 Tryz.sizeOf30 rfl rfl rfl rfl rfl) ?_
  refine w_ (p_call Tryz.func24 rfl rfl rfl rfl (d_whole_Neg (isInt_n _) (hgs)) rfl) ?_
  refine a_storeOw 0 Tryz.sizeOf30 rfl rfl rfl rfl rfl rfl rfl ?_
  refine aw_blk (ys := ofI ((Crv.mk px py d).g)) 0 rfl rfl (by unfold Crv.g; rw [if_pos hneg]) ?_
  refine aw_nil ?_
  refine ac_seq (ac_reg ?_)
  refine w_ (p_loadOw 1 Tryz.isAgg30 Tryz.sizeOf30 rfl rfl rfl rfl rfl) ?_
  refine w_ (p_loadOw 0 Tryz.isAgg30 Tryz.sizeOf30 rfl rfl rfl rfl rfl) ?_
  refine w_ (p_call Tryz.func37 rfl rfl rfl rfl (d_whole_Exact (isInt_n _) (isInt_n _) (hd1) (hg1) (Crv.g_ne _) (Crv.g_dvd _ _ (List.mem_cons_self ..))) rfl) ?_
  refine w_ (p_move rfl rfl) ?_
  refine w_ (p_extract rfl rfl rfl) ?_
  refine w_ (p_extract rfl rfl rfl) ?_
  refine a_storeOw 1 Tryz.sizeOf30 rfl rfl rfl rfl rfl rfl rfl ?_
  refine aw_nil ?_
  refine ac_seq ?_
  refine ac_draw mixed_ 7 [36, 37, 38, 39, 40, 41, 42] [[], [], [0, 1], [], [], [3, 4], []] [.one (pl (trim px)), .agg [sg ((Crv.mk px py d).g), mg ((Crv.mk px py d).g)], .one (pl (trim ((trim px).map (· / ((Crv.mk px py d).g))))), .one (pl (trim py)), .agg [sg ((Crv.mk px py d).g), mg ((Crv.mk px py d).g)], .one (pl (trim ((trim py).map (· / ((Crv.mk px py d).g))))), .agg [sg (((Crv.mk px py d).d') / ((Crv.mk px py d).g)), mg (((Crv.mk px py d).d') / ((Crv.mk px py d).g))]] rfl rfl rfl ⟨p_move rfl rfl, p_loadOw 0 Tryz.isAgg30 Tryz.sizeOf30 rfl rfl rfl rfl rfl, p_call Tryz.func38 rfl rfl rfl rfl (d_curve_over (by omega) (bd_mono (bd_trim hk.x) (by omega)) (hg1) (Crv.g_ne _) (fun z hz => Crv.g_dvd (Crv.mk px py d) z (by simp [hz]))) rfl, p_move rfl rfl, p_loadOw 0 Tryz.isAgg30 Tryz.sizeOf30 rfl rfl rfl rfl rfl, p_call Tryz.func38 rfl rfl rfl rfl (d_curve_over (by omega) (bd_mono (bd_trim hk.y) (by omega)) (hg1) (Crv.g_ne _) (fun z hz => Crv.g_dvd (Crv.mk px py d) z (by simp [hz]))) rfl, p_loadOw 1 Tryz.isAgg30 Tryz.sizeOf30 rfl rfl rfl rfl rfl, trivial⟩ rfl ?_
  refine w_ (p_build (bd_32) rfl rfl rfl rfl) ?_
  refine a_storeOw 2 Tryz.sizeOf32 rfl rfl rfl rfl rfl rfl rfl ?_
  refine aw_nil ?_
  refine ac_ret ?_
  exact retB_1 Tryz.results19 (rv_cell 2 Tryz.isAgg32 Tryz.sizeOf32 rfl rfl rfl rfl rfl) (rfl)
 skip
 refine ac_seq (ac_reg ?_)
 refine w_ (p_boxS rfl rfl rfl rfl) ?_
 refine a_alloc Tryz.zeroValue32 rfl rfl fun g19 => ?_
 refine aw_nil ?_
 refine ac_seq ?_
 refine ac_drawA mixed_ 10 [7, 8, 9, 10, 11, 12, 13, 14, 15, 5] [[], [0], [1], [], [3], [4], [], [6], [7], []] [.one (.sh [.row lx, .row ly, .bool b, u32r l]), .one (.row lx), .one (pl (trim px)), .one (.sh [.row ly, .bool b, u32r l]), .one (.row ly), .one (pl (trim py)), .one (.sh [.bool b, u32r l]), .agg [.bool b, u32r l], .agg [sg d, mg d], .un] [(9, 30, [.bool false, .slice none 0 0])] [[.bool false, .nils]] rfl rfl rfl (by decide) ⟨rfl, trivial⟩ rfl ⟨p_fieldSh fa_32_0 rfl rfl rfl, p_loadSh Tryz.isAgg27 Tryz.sizeOf27 rfl rfl rfl rfl, p_call Tryz.func33 rfl rfl rfl rfl (d_poly_Norm hx (by omega) (bd_mono hk.x (by omega))) rfl, p_fieldSh fa_32_1 rfl rfl rfl, p_loadSh Tryz.isAgg27 Tryz.sizeOf27 rfl rfl rfl rfl, p_call Tryz.func33 rfl rfl rfl rfl (d_poly_Norm hy (by omega) (bd_mono hk.y (by omega))) rfl, p_fieldSh fa_32_2 rfl rfl rfl, p_loadSh Tryz.isAgg30 Tryz.sizeOf30 rfl rfl rfl rfl, p_call Tryz.func34 rfl rfl rfl rfl (d_whole_Norm hd (Nat.le_trans hk.d (by omega))) rfl, al_alloc Tryz.zeroValue30 rfl, trivial⟩ fun g20 => ⟨_, _, rfl, rfl, ?_⟩
 refine w_ (p_assign rfl rfl) ?_
 refine w_ (p_assign rfl rfl) ?_
 refine a_storeOw 0 Tryz.sizeOf30 rfl rfl rfl rfl rfl rfl rfl ?_
 refine aw_blk (ys := ofI ((Crv.mk px py d).d')) 0 rfl rfl (by unfold Crv.d'; rw [if_neg h0]) ?_
 refine aw_nil ?_
 refine ac_seq (ac_seq (ac_reg ?_))
 refine w_ (p_loadOw 0 Tryz.isAgg30 Tryz.sizeOf30 rfl rfl rfl rfl rfl) ?_
 refine w_ (p_call Tryz.func35 rfl rfl rfl rfl (d_ZeroN _) rfl) ?_
 refine aw_nil ?_
 refine ac_f rfl (decide_eq_false h0') ?_
 refine ac_skip ?_
 refine ac_seq (ac_reg ?_)
 refine w_ (p_loadOw 0 Tryz.isAgg30 Tryz.sizeOf30 rfl rfl rfl rfl rfl) ?_
 refine a_lit Tryz.runUnderlying26 Tryz.sizeOf30 Tryz.zeroValue30 rfl rfl rfl rfl rfl rfl rfl rfl rfl rfl fun r21 => ?_
 refine w_ (p_move rfl rfl) ?_
 refine a_append (ls2 := ((Crv.mk px py d).d' :: trim px).map ofI) (m2 := 1 + (trim px).length) 0 Tryz.runUnderlying26 Tryz.runUnderlying27 Tryz.typeInfo30 rfl rfl Tryz.sizeOf30 Tryz.zeroValue30 rfl rfl rfl rfl rfl rfl rfl (Nat.le_refl _) (map_w _ (fun _ => rfl)) (map_f _ (fun _ => rfl)) (by rw [List.length_map]; omega) (rfl) (by rw [List.length_map]) fun r22 => ?_
 refine w_ (p_move rfl rfl) ?_
 refine a_append (ls2 := ((Crv.mk px py d).d' :: (trim px ++ trim py)).map ofI) (m2 := 1 + (trim px).length + (trim py).length) 0 Tryz.runUnderlying26 Tryz.runUnderlying27 Tryz.typeInfo30 rfl rfl Tryz.sizeOf30 Tryz.zeroValue30 rfl rfl rfl rfl rfl rfl rfl (by simp; omega) (map_w _ (fun _ => rfl)) (map_f _ (fun _ => rfl)) (by rw [List.length_map]; omega) (by rw [List.take_of_length_le (by simp; omega)]; simp) (by rw [List.length_map]) fun r23 => ?_
 refine aw_pub 0 [24] rfl (allAre1 rfl) (by simp; omega) (by simp; omega) rfl ?_
 refine w_ (p_call Tryz.func36 rfl rfl rfl rfl (d_whole_Gcd (isInts_n ((Crv.mk px py d).d' :: (trim px ++ trim py))) (by
   intro z hz
   rcases List.mem_cons.1 hz with rfl | hz
   ·exact hd1
   ·rcases List.mem_append.1 hz with hz | hz
    ·exact Nat.le_trans (bd_trim hk.x z hz) (by omega)
    ·exact Nat.le_trans (bd_trim hk.y z hz) (by omega))) rfl) ?_
 refine a_alloc Tryz.zeroValue30 rfl rfl fun g24 => ?_
 refine a_storeOw 0 Tryz.sizeOf30 rfl rfl rfl rfl rfl rfl rfl ?_
 refine aw_blk (ys := ofI ((Crv.mk px py d).g)) 0 rfl rfl (by unfold Crv.g; rw [if_neg (by omega)]) ?_
 refine aw_nil ?_
 refine ac_seq (ac_seq (ac_reg ?_))
 refine w_ (p_fieldOw fa_30_0 rfl rfl) ?_
 refine w_ (p_loadOw 1 Tryz.isAgg4 Tryz.sizeOf4 rfl rfl rfl rfl rfl) ?_
 refine aw_nil ?_
 refine ac_f rfl (decide_eq_false (by omega)) ?_
 refine ac_skip ?_
 refine ac_seq (ac_reg ?_)
 refine w_ (p_loadOw 1 Tryz.isAgg30 Tryz.sizeOf30 rfl rfl rfl rfl rfl) ?_
 refine w_ (p_loadOw 0 Tryz.isAgg30 Tryz.sizeOf30 rfl rfl rfl rfl rfl) ?_
 refine w_ (p_call Tryz.func37 rfl rfl rfl rfl (d_whole_Exact (isInt_n _) (isInt_n _) (hd1) (hg1) (Crv.g_ne _) (Crv.g_dvd _ _ (List.mem_cons_self ..))) rfl) ?_
 refine w_ (p_move rfl rfl) ?_
 refine w_ (p_extract rfl rfl rfl) ?_
 refine w_ (p_extract rfl rfl rfl) ?_
 refine a_storeOw 1 Tryz.sizeOf30 rfl rfl rfl rfl rfl rfl rfl ?_
 refine aw_nil ?_
 refine ac_seq ?_
 refine ac_draw mixed_ 7 [36, 37, 38, 39, 40, 41, 42] [[], [], [0, 1], [], [], [3, 4], []] [.one (pl (trim px)), .agg [sg ((Crv.mk px py d).g), mg ((Crv.mk px py d).g)], .one (pl (trim ((trim px).map (· / ((Crv.mk px py d).g))))), .one (pl (trim py)), .agg [sg ((Crv.mk px py d).g), mg ((Crv.mk px py d).g)], .one (pl (trim ((trim py).map (· / ((Crv.mk px py d).g))))), .agg [sg (((Crv.mk px py d).d') / ((Crv.mk px py d).g)), mg (((Crv.mk px py d).d') / ((Crv.mk px py d).g))]] rfl rfl rfl ⟨p_move rfl rfl, p_loadOw 0 Tryz.isAgg30 Tryz.sizeOf30 rfl rfl rfl rfl rfl, p_call Tryz.func38 rfl rfl rfl rfl (d_curve_over (by omega) (bd_mono (bd_trim hk.x) (by omega)) (hg1) (Crv.g_ne _) (fun z hz => Crv.g_dvd (Crv.mk px py d) z (by simp [hz]))) rfl, p_move rfl rfl, p_loadOw 0 Tryz.isAgg30 Tryz.sizeOf30 rfl rfl rfl rfl rfl, p_call Tryz.func38 rfl rfl rfl rfl (d_curve_over (by omega) (bd_mono (bd_trim hk.y) (by omega)) (hg1) (Crv.g_ne _) (fun z hz => Crv.g_dvd (Crv.mk px py d) z (by simp [hz]))) rfl, p_loadOw 1 Tryz.isAgg30 Tryz.sizeOf30 rfl rfl rfl rfl rfl, trivial⟩ rfl ?_
 refine w_ (p_build (bd_32) rfl rfl rfl rfl) ?_
 refine a_storeOw 2 Tryz.sizeOf32 rfl rfl rfl rfl rfl rfl rfl ?_
 refine aw_nil ?_
 refine ac_ret ?_
 exact retB_1 Tryz.results19 (rv_cell 2 Tryz.isAgg32 Tryz.sizeOf32 rfl rfl rfl rfl rfl) (rfl)
theorem d_curve_normN {k : Crv} (hn : Nml k) (hk : Cs 4294967294 1073741824 k) : Does Tryz.prog 19 [.agg (cl k)] (.agg (cl k)) := by
 have h := d_curve_norm (isInts_n k.x) (isInts_n k.y) (isInt_n k.d) hk
 rw [Crv.norm_of hn] at h
 exact h
def still (x y : Int) : Crv := Crv.norm ⟨trim [x], trim [y], 0⟩
theorem d_curve_Make {lx ly : List (List LV)} {px py : List Int} {b : Bool} {l : List Nat} {d : Int} (hx : IsInts lx px) (hy : IsInts ly py) (hd : IsInt (.bool b) (u32r l) d) (hk : Cs 4294967294 1073741824 (Crv.mk px py d)) (h0 : d ≠ 0) : Does Tryz.prog 68 [.one (.row lx), .one (.row ly), .agg [.bool b, u32r l]] (.tup [.agg [pl (((Crv.norm (Crv.mk px py d))).x), pl (((Crv.norm (Crv.mk px py d))).y), sg (((Crv.norm (Crv.mk px py d))).d), mg (((Crv.norm (Crv.mk px py d))).d)], .one (.int .i64 0)]) := by
 refine does_ (n := 17) Tryz.func68 rfl Tryz.ntmps68 rfl ?_
 refine ac_seq (ac_reg ?_)
 refine w_ (p_boxS rfl rfl rfl rfl) ?_
 refine a_alloc Tryz.zeroValue32 rfl rfl fun g1 => ?_
 refine w_ (p_assign rfl rfl) ?_
 refine aw_nil ?_
 refine ac_seq (ac_seq (ac_reg ?_))
 refine w_ (p_loadSh Tryz.isAgg30 Tryz.sizeOf30 rfl rfl rfl rfl) ?_
 refine w_ (p_call Tryz.func34 rfl rfl rfl rfl (d_whole_Norm hd (Nat.le_trans hk.d (by omega))) rfl) ?_
 refine w_ (p_call Tryz.func35 rfl rfl rfl rfl ((d_ZeroN _) ) rfl) ?_
 refine aw_nil ?_
 refine ac_f rfl (decide_eq_false h0) ?_
 refine ac_skip ?_
 refine ac_seq (ac_reg ?_)
 refine w_ (p_move rfl rfl) ?_
 refine w_ (p_move rfl rfl) ?_
 refine w_ (p_loadSh Tryz.isAgg30 Tryz.sizeOf30 rfl rfl rfl rfl) ?_
 refine w_ (p_build (bd_32) rfl rfl rfl rfl) ?_
 refine w_ (p_call Tryz.func19 rfl rfl rfl rfl (d_curve_norm hx hy hd (hk)) rfl) ?_
 refine a_storeOw 0 Tryz.sizeOf32 rfl rfl rfl rfl rfl rfl rfl ?_
 refine w_ (p_assign rfl rfl) ?_
 refine aw_nil ?_
 refine ac_ret ?_
 exact retB_2 Tryz.results68 (rv_cell 0 Tryz.isAgg32 Tryz.sizeOf32 rfl rfl rfl rfl rfl) (rv_tmp rfl rfl) (rfl)
theorem d_curve_Of {lx ly : List (List LV)} {px py : List Int} (hx : IsInts lx px) (hy : IsInts ly py) (hk : Cs 4294967294 1073741824 (Crv.mk px py 0)) : Does Tryz.prog 11 [.one (.row lx), .one (.row ly)] (.agg [pl (((Crv.norm (Crv.mk px py 0))).x), pl (((Crv.norm (Crv.mk px py 0))).y), sg (((Crv.norm (Crv.mk px py 0))).d), mg (((Crv.norm (Crv.mk px py 0))).d)]) := by
 refine does_ (n := 9) Tryz.func11 rfl Tryz.ntmps11 rfl ?_
 refine ac_seq (ac_reg ?_)
 refine a_alloc Tryz.zeroValue32 rfl rfl fun g1 => ?_
 refine aw_nil ?_
 refine ac_seq (ac_reg ?_)
 refine w_ (p_move rfl rfl) ?_
 refine w_ (p_move rfl rfl) ?_
 refine w_ (p_build (bd_32) rfl rfl rfl rfl) ?_
 refine w_ (p_call Tryz.func19 rfl rfl rfl rfl (d_curve_norm hx hy (show IsInt (.bool false) (u32r []) 0 from isInt_zero) (hk)) rfl) ?_
 refine a_storeOw 0 Tryz.sizeOf32 rfl rfl rfl rfl rfl rfl rfl ?_
 refine aw_nil ?_
 refine ac_ret ?_
 exact retB_1 Tryz.results11 (rv_cell 0 Tryz.isAgg32 Tryz.sizeOf32 rfl rfl rfl rfl rfl) (rfl)
theorem cs_still {x y : Int} (hx : -9223372036854775808 ≤ x ∧ x ≤ 9223372036854775807) (hy : -9223372036854775808 ≤ y ∧ y ≤ 9223372036854775807) : Cs 64 1 ⟨trim [x], trim [y], 0⟩ := by
 have key : ∀ z : Int, -9223372036854775808 ≤ z ∧ z ≤ 9223372036854775807 → isz z ≤ 64 := fun z hz => by
  rw [isz_le]
  have : (2 : Nat) ^ 64 = 18446744073709551616 := by decide
  omega
 refine ⟨bd_trim fun z hz => ?_, bd_trim fun z hz => ?_, Nat.zero_le _, trim_len [x], trim_len [y]⟩
 ·rw [List.mem_singleton] at hz; rw [hz]; exact key x hx
 rw [List.mem_singleton] at hz; rw [hz]; exact key y hy
theorem d_curve_Still {x y : Int} (hx : -9223372036854775808 ≤ x ∧ x ≤ 9223372036854775807) (hy : -9223372036854775808 ≤ y ∧ y ≤ 9223372036854775807) : Does Tryz.prog 5 [.one (.int .i64 x), .one (.int .i64 y)] (.agg [pl (((still x y)).x), pl (((still x y)).y), sg (((still x y)).d), mg (((still x y)).d)]) := by
 refine does_ (n := 12) Tryz.func5 rfl Tryz.ntmps5 rfl ?_
 refine ac_seq (ac_reg ?_)
 refine a_alloc Tryz.zeroValue32 rfl rfl fun g1 => ?_
 refine aw_nil ?_
 refine ac_seq (ac_reg ?_)
 refine w_ (p_move rfl rfl) ?_
 refine w_ (p_lit Tryz.runUnderlying42 Tryz.sizeOf3 Tryz.zeroValue3 rfl rfl rfl rfl rfl rfl rfl rfl rfl rfl) ?_
 refine w_ (p_call Tryz.func12 rfl rfl rfl rfl (d_poly_Of (p := [x]) (show 1 < 274877906944 by decide) (by intro z hz; rw [List.mem_singleton] at hz; rw [hz]; exact hx)) rfl) ?_
 refine w_ (p_move rfl rfl) ?_
 refine w_ (p_lit Tryz.runUnderlying42 Tryz.sizeOf3 Tryz.zeroValue3 rfl rfl rfl rfl rfl rfl rfl rfl rfl rfl) ?_
 refine w_ (p_call Tryz.func12 rfl rfl rfl rfl (d_poly_Of (p := [y]) (show 1 < 274877906944 by decide) (by intro z hz; rw [List.mem_singleton] at hz; rw [hz]; exact hy)) rfl) ?_
 refine w_ (p_call Tryz.func11 rfl rfl rfl rfl (d_curve_Of (isInts_n _) (isInts_n _) ((cs_still hx hy).mono (by omega) (by omega))) rfl) ?_
 refine a_storeOw 0 Tryz.sizeOf32 rfl rfl rfl rfl rfl rfl rfl ?_
 refine aw_nil ?_
 refine ac_ret ?_
 exact retB_1 Tryz.results5 (rv_cell 0 Tryz.isAgg32 Tryz.sizeOf32 rfl rfl rfl rfl rfl) (rfl)
theorem d_curve_Same {a b : Crv} (ha : Nml a) (hb : Nml b) (ca : Cs 4294967294 1073741824 a) (cb : Cs 4294967294 1073741824 b) : Does Tryz.prog 54 [.agg [pl a.x, pl a.y, sg a.d, mg a.d], .agg [pl b.x, pl b.y, sg b.d, mg b.d]] (.one (.bool (crvEq a b))) := by
 refine does_ (n := 29) Tryz.func54 rfl Tryz.ntmps54 rfl ?_
 by_cases hex : trim a.x = trim b.x
 ·by_cases hey : trim a.y = trim b.y
  ·skip
   refine ac_seq (ac_reg ?_)
   refine a_box rfl rfl rfl fun g1 => ?_
   refine a_box rfl rfl rfl fun g2 => ?_
   refine w_ (p_assign rfl rfl) ?_
   refine aw_nil ?_
   refine ac_seq ?_
   refine ac_draw mixed_ 3 [5, 6, 7] [[], [0], []] [.agg [pl a.x, pl a.y, sg a.d, mg a.d], .agg [pl a.x, pl a.y, sg a.d, mg a.d], .agg [pl b.x, pl b.y, sg b.d, mg b.d]] rfl rfl rfl ⟨p_loadOw 1 Tryz.isAgg32 Tryz.sizeOf32 rfl rfl rfl rfl rfl, p_call Tryz.func19 rfl rfl rfl rfl (d_curve_normN (ha) (ca)) rfl, p_loadOw 0 Tryz.isAgg32 Tryz.sizeOf32 rfl rfl rfl rfl rfl, trivial⟩ rfl ?_
   refine w_ (p_call Tryz.func19 rfl rfl rfl rfl (d_curve_normN (hb) (cb)) rfl) ?_
   refine a_storeOw 1 Tryz.sizeOf32 rfl rfl rfl rfl rfl rfl rfl ?_
   refine a_storeOw 0 Tryz.sizeOf32 rfl rfl rfl rfl rfl rfl rfl ?_
   refine aw_nil ?_
   refine ac_seq (ac_reg ?_)
   refine w_ (p_fieldOw fa_32_0 rfl rfl) ?_
   refine w_ (p_loadOw 1 Tryz.isAgg27 Tryz.sizeOf27 rfl rfl rfl rfl rfl) ?_
   refine w_ (p_fieldOw fa_32_0 rfl rfl) ?_
   refine w_ (p_loadOw 0 Tryz.isAgg27 Tryz.sizeOf27 rfl rfl rfl rfl rfl) ?_
   refine w_ (p_call Tryz.func73 rfl rfl rfl rfl (d_poly_Same (Nat.lt_of_le_of_lt ca.lx (by omega)) (Nat.lt_of_le_of_lt cb.lx (by omega)) (bd_mono ca.x (by omega)) (bd_mono cb.x (by omega))) rfl) ?_
   refine w_ (p_move rfl rfl) ?_
   refine w_ ((p_grun rfl rfl (decide_eq_true hex) (p_fieldOw fa_32_1 rfl rfl))) ?_
   refine w_ ((p_grun rfl rfl (decide_eq_true hex) (p_loadOw 1 Tryz.isAgg27 Tryz.sizeOf27 rfl rfl rfl rfl rfl))) ?_
   refine w_ ((p_grun rfl rfl (decide_eq_true hex) (p_fieldOw fa_32_1 rfl rfl))) ?_
   refine w_ ((p_grun rfl rfl (decide_eq_true hex) (p_loadOw 0 Tryz.isAgg27 Tryz.sizeOf27 rfl rfl rfl rfl rfl))) ?_
   refine w_ ((p_grun rfl rfl (decide_eq_true hex) (p_call Tryz.func73 rfl rfl rfl rfl (d_poly_Same (Nat.lt_of_le_of_lt ca.ly (by omega)) (Nat.lt_of_le_of_lt cb.ly (by omega)) (bd_mono ca.y (by omega)) (bd_mono cb.y (by omega))) rfl))) ?_
   refine w_ (p_pickT rfl (decide_eq_true hex) rfl rfl) ?_
   refine w_ (p_move rfl rfl) ?_
   refine w_ ((p_grun rfl rfl (decide_eq_true hey) (p_fieldOw fa_32_2 rfl rfl))) ?_
   refine w_ ((p_grun rfl rfl (decide_eq_true hey) (p_loadOw 1 Tryz.isAgg30 Tryz.sizeOf30 rfl rfl rfl rfl rfl))) ?_
   refine w_ ((p_grun rfl rfl (decide_eq_true hey) (p_fieldOw fa_32_2 rfl rfl))) ?_
   refine w_ ((p_grun rfl rfl (decide_eq_true hey) (p_loadOw 0 Tryz.isAgg30 Tryz.sizeOf30 rfl rfl rfl rfl rfl))) ?_
   refine w_ ((p_grun rfl rfl (decide_eq_true hey) (p_call Tryz.func71 rfl rfl rfl rfl (d_whole_Cmp (isInt_n _) (isInt_n _) (Nat.le_trans ca.d (by omega)) (Nat.le_trans cb.d (by omega))) rfl))) ?_
   refine w_ ((p_grun rfl rfl (decide_eq_true hey) (p_cmp rfl rfl rfl rfl))) ?_
   refine w_ (p_pickT rfl (decide_eq_true hey) rfl rfl) ?_
   refine w_ (p_assign rfl rfl) ?_
   refine aw_nil ?_
   refine ac_ret ?_
   exact retB_1 Tryz.results54 (rv_tmp rfl rfl) (by unfold crvEq; rw [show trim a.x = a.x from ha.1, show trim b.x = b.x from hb.1] at hex; rw [show trim a.y = a.y from ha.2.1, show trim b.y = b.y from hb.2.1] at hey; simp [hex, hey, cmpZ_eq])
  skip
  refine ac_seq (ac_reg ?_)
  refine a_box rfl rfl rfl fun g3 => ?_
  refine a_box rfl rfl rfl fun g4 => ?_
  refine w_ (p_assign rfl rfl) ?_
  refine aw_nil ?_
  refine ac_seq ?_
  refine ac_draw mixed_ 3 [5, 6, 7] [[], [0], []] [.agg [pl a.x, pl a.y, sg a.d, mg a.d], .agg [pl a.x, pl a.y, sg a.d, mg a.d], .agg [pl b.x, pl b.y, sg b.d, mg b.d]] rfl rfl rfl ⟨p_loadOw 1 Tryz.isAgg32 Tryz.sizeOf32 rfl rfl rfl rfl rfl, p_call Tryz.func19 rfl rfl rfl rfl (d_curve_normN (ha) (ca)) rfl, p_loadOw 0 Tryz.isAgg32 Tryz.sizeOf32 rfl rfl rfl rfl rfl, trivial⟩ rfl ?_
  refine w_ (p_call Tryz.func19 rfl rfl rfl rfl (d_curve_normN (hb) (cb)) rfl) ?_
  refine a_storeOw 1 Tryz.sizeOf32 rfl rfl rfl rfl rfl rfl rfl ?_
  refine a_storeOw 0 Tryz.sizeOf32 rfl rfl rfl rfl rfl rfl rfl ?_
  refine aw_nil ?_
  refine ac_seq (ac_reg ?_)
  refine w_ (p_fieldOw fa_32_0 rfl rfl) ?_
  refine w_ (p_loadOw 1 Tryz.isAgg27 Tryz.sizeOf27 rfl rfl rfl rfl rfl) ?_
  refine w_ (p_fieldOw fa_32_0 rfl rfl) ?_
  refine w_ (p_loadOw 0 Tryz.isAgg27 Tryz.sizeOf27 rfl rfl rfl rfl rfl) ?_
  refine w_ (p_call Tryz.func73 rfl rfl rfl rfl (d_poly_Same (Nat.lt_of_le_of_lt ca.lx (by omega)) (Nat.lt_of_le_of_lt cb.lx (by omega)) (bd_mono ca.x (by omega)) (bd_mono cb.x (by omega))) rfl) ?_
  refine w_ (p_move rfl rfl) ?_
  refine w_ ((p_grun rfl rfl (decide_eq_true hex) (p_fieldOw fa_32_1 rfl rfl))) ?_
  refine w_ ((p_grun rfl rfl (decide_eq_true hex) (p_loadOw 1 Tryz.isAgg27 Tryz.sizeOf27 rfl rfl rfl rfl rfl))) ?_
  refine w_ ((p_grun rfl rfl (decide_eq_true hex) (p_fieldOw fa_32_1 rfl rfl))) ?_
  refine w_ ((p_grun rfl rfl (decide_eq_true hex) (p_loadOw 0 Tryz.isAgg27 Tryz.sizeOf27 rfl rfl rfl rfl rfl))) ?_
  refine w_ ((p_grun rfl rfl (decide_eq_true hex) (p_call Tryz.func73 rfl rfl rfl rfl (d_poly_Same (Nat.lt_of_le_of_lt ca.ly (by omega)) (Nat.lt_of_le_of_lt cb.ly (by omega)) (bd_mono ca.y (by omega)) (bd_mono cb.y (by omega))) rfl))) ?_
  refine w_ (p_pickT rfl (decide_eq_true hex) rfl rfl) ?_
  refine w_ (p_move rfl rfl) ?_
  refine w_ (p_gskip rfl rfl (decide_eq_false hey) rfl) ?_
  refine w_ (p_gskip rfl rfl (decide_eq_false hey) rfl) ?_
  refine w_ (p_gskip rfl rfl (decide_eq_false hey) rfl) ?_
  refine w_ (p_gskip rfl rfl (decide_eq_false hey) rfl) ?_
  refine w_ (p_gskip rfl rfl (decide_eq_false hey) rfl) ?_
  refine w_ (p_gskip rfl rfl (decide_eq_false hey) rfl) ?_
  refine w_ (p_pickF rfl (decide_eq_false hey) rfl rfl) ?_
  refine w_ (p_assign rfl rfl) ?_
  refine aw_nil ?_
  refine ac_ret ?_
  exact retB_1 Tryz.results54 (rv_tmp rfl rfl) (by unfold crvEq; rw [show trim a.y = a.y from ha.2.1, show trim b.y = b.y from hb.2.1] at hey; simp [hey])
 skip
 refine ac_seq (ac_reg ?_)
 refine a_box rfl rfl rfl fun g5 => ?_
 refine a_box rfl rfl rfl fun g6 => ?_
 refine w_ (p_assign rfl rfl) ?_
 refine aw_nil ?_
 refine ac_seq ?_
 refine ac_draw mixed_ 3 [5, 6, 7] [[], [0], []] [.agg [pl a.x, pl a.y, sg a.d, mg a.d], .agg [pl a.x, pl a.y, sg a.d, mg a.d], .agg [pl b.x, pl b.y, sg b.d, mg b.d]] rfl rfl rfl ⟨p_loadOw 1 Tryz.isAgg32 Tryz.sizeOf32 rfl rfl rfl rfl rfl, p_call Tryz.func19 rfl rfl rfl rfl (d_curve_normN (ha) (ca)) rfl, p_loadOw 0 Tryz.isAgg32 Tryz.sizeOf32 rfl rfl rfl rfl rfl, trivial⟩ rfl ?_
 refine w_ (p_call Tryz.func19 rfl rfl rfl rfl (d_curve_normN (hb) (cb)) rfl) ?_
 refine a_storeOw 1 Tryz.sizeOf32 rfl rfl rfl rfl rfl rfl rfl ?_
 refine a_storeOw 0 Tryz.sizeOf32 rfl rfl rfl rfl rfl rfl rfl ?_
 refine aw_nil ?_
 refine ac_seq (ac_reg ?_)
 refine w_ (p_fieldOw fa_32_0 rfl rfl) ?_
 refine w_ (p_loadOw 1 Tryz.isAgg27 Tryz.sizeOf27 rfl rfl rfl rfl rfl) ?_
 refine w_ (p_fieldOw fa_32_0 rfl rfl) ?_
 refine w_ (p_loadOw 0 Tryz.isAgg27 Tryz.sizeOf27 rfl rfl rfl rfl rfl) ?_
 refine w_ (p_call Tryz.func73 rfl rfl rfl rfl (d_poly_Same (Nat.lt_of_le_of_lt ca.lx (by omega)) (Nat.lt_of_le_of_lt cb.lx (by omega)) (bd_mono ca.x (by omega)) (bd_mono cb.x (by omega))) rfl) ?_
 refine w_ (p_move rfl rfl) ?_
 refine w_ (p_gskip rfl rfl (decide_eq_false hex) rfl) ?_
 refine w_ (p_gskip rfl rfl (decide_eq_false hex) rfl) ?_
 refine w_ (p_gskip rfl rfl (decide_eq_false hex) rfl) ?_
 refine w_ (p_gskip rfl rfl (decide_eq_false hex) rfl) ?_
 refine w_ (p_gskip rfl rfl (decide_eq_false hex) rfl) ?_
 refine w_ (p_pickF rfl (decide_eq_false hex) rfl rfl) ?_
 refine w_ (p_move rfl rfl) ?_
 refine w_ (p_gskip rfl rfl (rfl) rfl) ?_
 refine w_ (p_gskip rfl rfl (rfl) rfl) ?_
 refine w_ (p_gskip rfl rfl (rfl) rfl) ?_
 refine w_ (p_gskip rfl rfl (rfl) rfl) ?_
 refine w_ (p_gskip rfl rfl (rfl) rfl) ?_
 refine w_ (p_gskip rfl rfl (rfl) rfl) ?_
 refine w_ (p_pickF rfl (rfl) rfl rfl) ?_
 refine w_ (p_assign rfl rfl) ?_
 refine aw_nil ?_
 refine ac_ret ?_
 exact retB_1 Tryz.results54 (rv_tmp rfl rfl) (by unfold crvEq; rw [show trim a.x = a.x from ha.1, show trim b.x = b.x from hb.1] at hex; simp [hex])
theorem norm_d1 (px py : List Int) : Crv.norm ⟨px, py, 1⟩ = Crv.norm ⟨px, py, 0⟩ := rfl
theorem d_crowd_fresh {lx ly : List (List LV)} {px py : List Int} {b : Bool} {l : List Nat} {d : Int} (hx : IsInts lx px) (hy : IsInts ly py) (hd : IsInt (.bool b) (u32r l) d) (hk : Cs 4294967294 1073741824 (Crv.mk px py d)) {id : Int} : Does Tryz.prog 42 [.agg [.row lx, .row ly, .bool b, u32r l, .int .i64 id]] (.agg [pl (((Crv.norm (Crv.mk px py d))).x), pl (((Crv.norm (Crv.mk px py d))).y), sg (((Crv.norm (Crv.mk px py d))).d), mg (((Crv.norm (Crv.mk px py d))).d), .int .i64 id]) := by
 refine does_ (n := 24) Tryz.func42 rfl Tryz.ntmps42 rfl ?_
 by_cases h0 : d = 0
 ·skip
  refine ac_seq (ac_reg ?_)
  refine a_box rfl rfl rfl fun g1 => ?_
  refine a_alloc Tryz.zeroValue35 rfl rfl fun g2 => ?_
  refine aw_nil ?_
  refine ac_seq (ac_reg ?_)
  refine w_ (p_fieldOw fa_35_0 rfl rfl) ?_
  refine w_ (p_fieldOw fa_32_2 rfl rfl) ?_
  refine w_ (p_loadOw 1 Tryz.isAgg30 Tryz.sizeOf30 rfl rfl rfl rfl rfl) ?_
  refine a_alloc Tryz.zeroValue30 rfl rfl fun g3 => ?_
  refine a_storeOw 0 Tryz.sizeOf30 rfl rfl rfl rfl rfl rfl rfl ?_
  refine aw_nil ?_
  refine ac_seq (ac_seq (ac_reg ?_))
  refine w_ (p_loadOw 0 Tryz.isAgg30 Tryz.sizeOf30 rfl rfl rfl rfl rfl) ?_
  refine w_ (p_call Tryz.func34 rfl rfl rfl rfl (d_whole_Norm hd (Nat.le_trans hk.d (by omega))) rfl) ?_
  refine w_ (p_call Tryz.func35 rfl rfl rfl rfl ((d_ZeroN _) ) rfl) ?_
  refine aw_nil ?_
  refine ac_t rfl (decide_eq_true h0) ?_
  refine ac_reg ?_
  refine w_ (p_call Tryz.func20 rfl rfl rfl rfl (d_whole_Of (by omega)) rfl) ?_
  refine a_storeOw 0 Tryz.sizeOf30 rfl rfl rfl rfl rfl rfl rfl ?_
  refine aw_nil ?_
  refine ac_seq (ac_reg ?_)
  refine w_ (p_fieldOw fa_35_0 rfl rfl) ?_
  refine w_ (p_fieldOw fa_32_0 rfl rfl) ?_
  refine w_ (p_loadOw 2 Tryz.isAgg27 Tryz.sizeOf27 rfl rfl rfl rfl rfl) ?_
  refine w_ (p_fieldOw fa_35_0 rfl rfl) ?_
  refine w_ (p_fieldOw fa_32_1 rfl rfl) ?_
  refine w_ (p_loadOw 2 Tryz.isAgg27 Tryz.sizeOf27 rfl rfl rfl rfl rfl) ?_
  refine w_ (p_loadOw 0 Tryz.isAgg30 Tryz.sizeOf30 rfl rfl rfl rfl rfl) ?_
  refine w_ (p_call Tryz.func68 rfl rfl rfl rfl (d_curve_Make hx hy (isInt_n _) (⟨hk.x, hk.y, by show isz 1 ≤ _; decide, hk.lx, hk.ly⟩) (by decide)) rfl) ?_
  refine w_ (p_move rfl rfl) ?_
  refine w_ (p_extract rfl rfl rfl) ?_
  refine w_ (p_extract rfl rfl rfl) ?_
  refine w_ (p_fieldOw fa_35_0 rfl rfl) ?_
  refine a_storeOw 2 Tryz.sizeOf32 rfl rfl rfl rfl rfl rfl rfl ?_
  refine aw_nil ?_
  refine ac_seq (ac_reg ?_)
  refine w_ (p_loadOw 2 Tryz.isAgg35 Tryz.sizeOf35 rfl rfl rfl rfl rfl) ?_
  refine a_storeOw 1 Tryz.sizeOf35 rfl rfl rfl rfl rfl rfl rfl ?_
  refine aw_nil ?_
  refine ac_ret ?_
  exact retB_1 Tryz.results42 (rv_cell 1 Tryz.isAgg35 Tryz.sizeOf35 rfl rfl rfl rfl rfl) (by rw [h0, norm_d1])
 skip
 refine ac_seq (ac_reg ?_)
 refine a_box rfl rfl rfl fun g4 => ?_
 refine a_alloc Tryz.zeroValue35 rfl rfl fun g5 => ?_
 refine aw_nil ?_
 refine ac_seq (ac_reg ?_)
 refine w_ (p_fieldOw fa_35_0 rfl rfl) ?_
 refine w_ (p_fieldOw fa_32_2 rfl rfl) ?_
 refine w_ (p_loadOw 1 Tryz.isAgg30 Tryz.sizeOf30 rfl rfl rfl rfl rfl) ?_
 refine a_alloc Tryz.zeroValue30 rfl rfl fun g6 => ?_
 refine a_storeOw 0 Tryz.sizeOf30 rfl rfl rfl rfl rfl rfl rfl ?_
 refine aw_nil ?_
 refine ac_seq (ac_seq (ac_reg ?_))
 refine w_ (p_loadOw 0 Tryz.isAgg30 Tryz.sizeOf30 rfl rfl rfl rfl rfl) ?_
 refine w_ (p_call Tryz.func34 rfl rfl rfl rfl (d_whole_Norm hd (Nat.le_trans hk.d (by omega))) rfl) ?_
 refine w_ (p_call Tryz.func35 rfl rfl rfl rfl ((d_ZeroN _) ) rfl) ?_
 refine aw_nil ?_
 refine ac_f rfl (decide_eq_false h0) ?_
 refine ac_skip ?_
 refine ac_seq (ac_reg ?_)
 refine w_ (p_fieldOw fa_35_0 rfl rfl) ?_
 refine w_ (p_fieldOw fa_32_0 rfl rfl) ?_
 refine w_ (p_loadOw 2 Tryz.isAgg27 Tryz.sizeOf27 rfl rfl rfl rfl rfl) ?_
 refine w_ (p_fieldOw fa_35_0 rfl rfl) ?_
 refine w_ (p_fieldOw fa_32_1 rfl rfl) ?_
 refine w_ (p_loadOw 2 Tryz.isAgg27 Tryz.sizeOf27 rfl rfl rfl rfl rfl) ?_
 refine w_ (p_loadOw 0 Tryz.isAgg30 Tryz.sizeOf30 rfl rfl rfl rfl rfl) ?_
 refine w_ (p_call Tryz.func68 rfl rfl rfl rfl (d_curve_Make hx hy hd (hk) (h0)) rfl) ?_
 refine w_ (p_move rfl rfl) ?_
 refine w_ (p_extract rfl rfl rfl) ?_
 refine w_ (p_extract rfl rfl rfl) ?_
 refine w_ (p_fieldOw fa_35_0 rfl rfl) ?_
 refine a_storeOw 2 Tryz.sizeOf32 rfl rfl rfl rfl rfl rfl rfl ?_
 refine aw_nil ?_
 refine ac_seq (ac_reg ?_)
 refine w_ (p_loadOw 2 Tryz.isAgg35 Tryz.sizeOf35 rfl rfl rfl rfl rfl) ?_
 refine a_storeOw 1 Tryz.sizeOf35 rfl rfl rfl rfl rfl rfl rfl ?_
 refine aw_nil ?_
 refine ac_ret ?_
 exact retB_1 Tryz.results42 (rv_cell 1 Tryz.isAgg35 Tryz.sizeOf35 rfl rfl rfl rfl rfl) (rfl)
end Orr

namespace Orr
open Go Go.Proofs
set_option maxRecDepth 20000 in
theorem d_crowd_at {l : List Pt} {id : Int} (hl : l.length < 1073741824) : Does Tryz.prog 41 [.agg [pts l], .one (.int .i64 id)] (.tup [.one (.int .i64 (((pos l id : Nat) : Int))), .one (.bool (has l id))]) := by
 refine does_ (n := 40) Tryz.func41 rfl Tryz.ntmps41 rfl ?_
 refine ac_seq (ac_reg ?_)
 refine w_ (p_boxS rfl rfl rfl rfl) ?_
 refine w_ (p_assign rfl rfl) ?_
 refine w_ (p_assign rfl rfl) ?_
 refine aw_nil ?_
 refine ac_seq (ac_reg ?_)
 refine w_ (p_assign rfl rfl) ?_
 refine aw_nil ?_
 refine ac_seq (ac_block ?_)
 refine ac_pick [1, 2, 6] rfl ?_
 refine ac_loop (fun m L B => ∃ k, k ≤ l.length ∧ (∀ j p, j < k → l[j]? = some p → p.id < id) ∧ m = l.length - k ∧ L = [(1, .one (.int .i64 id)), (2, .one (.sh [pts l])), (6, .one (.int .i64 ((k : Int))))] ∧ B = []) (m := _) ⟨0, Nat.zero_le _, fun j p hj => absurd hj (Nat.not_lt_zero _), rfl, rfl, rfl⟩ ?_
 rintro m L B ⟨k, hp0, hp1, hm, rfl, rfl⟩
 by_cases hlt : k < l.length
 ·obtain ⟨p, hp⟩ : ∃ p, l[k]? = some p := ⟨_, List.getElem?_eq_getElem hlt⟩
  by_cases hid : p.id < id
  ·skip
   refine ac_seq (ac_seq (ac_reg ?_))
   refine w_ (p_move rfl rfl) ?_
   refine w_ (p_fieldSh fa_51_0 rfl rfl rfl) ?_
   refine w_ (p_loadSh Tryz.isAgg25 Tryz.sizeOf25 rfl rfl rfl rfl) ?_
   refine w_ (p_len (m := l.length) Tryz.runUnderlying25 rfl (rlen_pts _) rfl) ?_
   refine w_ (p_cmp rfl rfl rfl rfl) ?_
   refine w_ (p_move rfl rfl) ?_
   refine w_ ((p_grun rfl rfl (decide_eq_true (by omega)) (p_fieldSh fa_51_0 rfl rfl rfl))) ?_
   refine w_ ((p_grun rfl rfl (decide_eq_true (by omega)) (p_loadSh Tryz.isAgg25 Tryz.sizeOf25 rfl rfl rfl rfl))) ?_
   refine w_ ((p_grun rfl rfl (decide_eq_true (by omega)) (p_move rfl rfl))) ?_
   refine w_ ((p_grun rfl rfl (decide_eq_true (by omega)) (p_index (k) Tryz.runUnderlying25 Tryz.sizeOf35 rfl rfl (rfl) (map_get hp) rfl rfl))) ?_
   refine w_ ((p_grun rfl rfl (decide_eq_true (by omega)) (p_fieldSh fa_35_1 rfl rfl rfl))) ?_
   refine w_ ((p_grun rfl rfl (decide_eq_true (by omega)) (p_loadSh Tryz.isAgg3 Tryz.sizeOf3 rfl rfl rfl rfl))) ?_
   refine w_ ((p_grun rfl rfl (decide_eq_true (by omega)) (p_move rfl rfl))) ?_
   refine w_ ((p_grun rfl rfl (decide_eq_true (by omega)) (p_cmp rfl rfl rfl rfl))) ?_
   refine w_ (p_pickT rfl (decide_eq_true (by omega)) rfl rfl) ?_
   refine aw_nil ?_
   refine ac_t rfl (decide_eq_true hid) ?_
   refine ac_skip ?_
   refine ac_block (ac_reg ?_)
   refine w_ (p_move rfl rfl) ?_
   refine w_ (p_add (r := ((k + 1 : Nat) : Int)) rfl rfl (i64_is (by omega) (by omega)) rfl) ?_
   refine w_ (p_assign rfl rfl) ?_
   refine aw_pick [1, 2, 6] rfl ?_
   refine aw_nil ?_
   refine ⟨_, ?_, k + 1, by omega, fun j q hj hq => by
     rcases Nat.lt_or_ge j k with h1 | h1
     ·exact hp1 j q h1 hq
     ·rw [show j = k from by omega, hp] at hq; injection hq with hq; rw [← hq]; exact hid, rfl, rfl, rfl⟩
   omega
  skip
  refine ac_seq (ac_seq (ac_reg ?_))
  refine w_ (p_move rfl rfl) ?_
  refine w_ (p_fieldSh fa_51_0 rfl rfl rfl) ?_
  refine w_ (p_loadSh Tryz.isAgg25 Tryz.sizeOf25 rfl rfl rfl rfl) ?_
  refine w_ (p_len (m := l.length) Tryz.runUnderlying25 rfl (rlen_pts _) rfl) ?_
  refine w_ (p_cmp rfl rfl rfl rfl) ?_
  refine w_ (p_move rfl rfl) ?_
  refine w_ ((p_grun rfl rfl (decide_eq_true (by omega)) (p_fieldSh fa_51_0 rfl rfl rfl))) ?_
  refine w_ ((p_grun rfl rfl (decide_eq_true (by omega)) (p_loadSh Tryz.isAgg25 Tryz.sizeOf25 rfl rfl rfl rfl))) ?_
  refine w_ ((p_grun rfl rfl (decide_eq_true (by omega)) (p_move rfl rfl))) ?_
  refine w_ ((p_grun rfl rfl (decide_eq_true (by omega)) (p_index (k) Tryz.runUnderlying25 Tryz.sizeOf35 rfl rfl (rfl) (map_get hp) rfl rfl))) ?_
  refine w_ ((p_grun rfl rfl (decide_eq_true (by omega)) (p_fieldSh fa_35_1 rfl rfl rfl))) ?_
  refine w_ ((p_grun rfl rfl (decide_eq_true (by omega)) (p_loadSh Tryz.isAgg3 Tryz.sizeOf3 rfl rfl rfl rfl))) ?_
  refine w_ ((p_grun rfl rfl (decide_eq_true (by omega)) (p_move rfl rfl))) ?_
  refine w_ ((p_grun rfl rfl (decide_eq_true (by omega)) (p_cmp rfl rfl rfl rfl))) ?_
  refine w_ (p_pickT rfl (decide_eq_true (by omega)) rfl rfl) ?_
  refine aw_nil ?_
  refine ac_f rfl (decide_eq_false hid) ?_
  refine ac_exit ?_
  repeat refine seqQ_exit ?_
  refine blkQ_here ?_
  refine ac_seq ?_
  refine ac_draw mixed_ 17 [24, 25, 26, 27, 28, 29, 30, 31, 32, 33, 34, 35, 36, 37, 38, 39, 4] [[], [], [], [2], [3], [1, 4], [5], [6], [6, 7], [6], [6, 8, 9], [6, 10], [6, 11], [6], [6, 12, 13], [6, 14], [0]] [.one (.int .i64 ((k : Int))), .one (.int .i64 ((k : Int))), .one (.sh [pts l]), .one (pts l), .one (.int .i64 (((l.length : Nat) : Int))), .one (.bool ((decide (((k : Int)) < (((l.length : Nat) : Int)))))), .one (.bool ((decide (((k : Int)) < (((l.length : Nat) : Int)))))), .one (.sh [pts l]), .one (pts l), .one (.int .i64 ((k : Int))), .one (.sh [pl p.c.x, pl p.c.y, sg p.c.d, mg p.c.d, .int .i64 p.id]), .one (.sh [.int .i64 p.id]), .one (.int .i64 p.id), .one (.int .i64 id), .one (.bool ((decide (p.id = id)))), .one (.bool ((decide (p.id = id)))), .one (.int .i64 ((k : Int)))] rfl rfl rfl ⟨p_move rfl rfl, p_move rfl rfl, p_fieldSh fa_51_0 rfl rfl rfl, p_loadSh Tryz.isAgg25 Tryz.sizeOf25 rfl rfl rfl rfl, p_len (m := l.length) Tryz.runUnderlying25 rfl (rlen_pts _) rfl, p_cmp rfl rfl rfl rfl, p_move rfl rfl, (p_grun rfl rfl (decide_eq_true (by omega)) (p_fieldSh fa_51_0 rfl rfl rfl)), (p_grun rfl rfl (decide_eq_true (by omega)) (p_loadSh Tryz.isAgg25 Tryz.sizeOf25 rfl rfl rfl rfl)), (p_grun rfl rfl (decide_eq_true (by omega)) (p_move rfl rfl)), (p_grun rfl rfl (decide_eq_true (by omega)) (p_index (k) Tryz.runUnderlying25 Tryz.sizeOf35 rfl rfl (rfl) (map_get hp) rfl rfl)), (p_grun rfl rfl (decide_eq_true (by omega)) (p_fieldSh fa_35_1 rfl rfl rfl)), (p_grun rfl rfl (decide_eq_true (by omega)) (p_loadSh Tryz.isAgg3 Tryz.sizeOf3 rfl rfl rfl rfl)), (p_grun rfl rfl (decide_eq_true (by omega)) (p_move rfl rfl)), (p_grun rfl rfl (decide_eq_true (by omega)) (p_cmp rfl rfl rfl rfl)), p_pickT rfl (decide_eq_true (by omega)) rfl rfl, p_assign rfl rfl, trivial⟩ rfl ?_
  refine w_ (p_assign rfl rfl) ?_
  refine aw_nil ?_
  have hpos := pos_eq hp1 (.inr ⟨p, hp, hid⟩)
  have hhas : has l id = decide (p.id = id) := by unfold has; rw [hpos, hp]
  refine ac_ret ?_
  exact retB_2 Tryz.results41 (rv_tmp rfl rfl) (rv_tmp rfl rfl) (by rw [hpos, hhas])
 skip
 refine ac_seq (ac_seq (ac_reg ?_))
 refine w_ (p_move rfl rfl) ?_
 refine w_ (p_fieldSh fa_51_0 rfl rfl rfl) ?_
 refine w_ (p_loadSh Tryz.isAgg25 Tryz.sizeOf25 rfl rfl rfl rfl) ?_
 refine w_ (p_len (m := l.length) Tryz.runUnderlying25 rfl (rlen_pts _) rfl) ?_
 refine w_ (p_cmp rfl rfl rfl rfl) ?_
 refine w_ (p_move rfl rfl) ?_
 refine w_ (p_gskip rfl rfl (decide_eq_false (by omega)) rfl) ?_
 refine w_ (p_gskip rfl rfl (decide_eq_false (by omega)) rfl) ?_
 refine w_ (p_gskip rfl rfl (decide_eq_false (by omega)) rfl) ?_
 refine w_ (p_gskip rfl rfl (decide_eq_false (by omega)) rfl) ?_
 refine w_ (p_gskip rfl rfl (decide_eq_false (by omega)) rfl) ?_
 refine w_ (p_gskip rfl rfl (decide_eq_false (by omega)) rfl) ?_
 refine w_ (p_gskip rfl rfl (decide_eq_false (by omega)) rfl) ?_
 refine w_ (p_gskip rfl rfl (decide_eq_false (by omega)) rfl) ?_
 refine w_ (p_pickF rfl (decide_eq_false (by omega)) rfl rfl) ?_
 refine aw_nil ?_
 refine ac_f rfl (rfl) ?_
 refine ac_exit ?_
 repeat refine seqQ_exit ?_
 refine blkQ_here ?_
 refine ac_seq ?_
 refine ac_draw mixed_ 17 [24, 25, 26, 27, 28, 29, 30, 31, 32, 33, 34, 35, 36, 37, 38, 39, 4] [[], [], [], [2], [3], [1, 4], [5], [6], [6, 7], [6], [6, 8, 9], [6, 10], [6, 11], [6], [6, 12, 13], [6, 14], [0]] [.one (.int .i64 ((k : Int))), .one (.int .i64 ((k : Int))), .one (.sh [pts l]), .one (pts l), .one (.int .i64 (((l.length : Nat) : Int))), .one (.bool ((decide (((k : Int)) < (((l.length : Nat) : Int)))))), .one (.bool ((decide (((k : Int)) < (((l.length : Nat) : Int)))))), .un, .un, .un, .un, .un, .un, .un, .un, .one (.bool false), .one (.int .i64 ((k : Int)))] rfl rfl rfl ⟨p_move rfl rfl, p_move rfl rfl, p_fieldSh fa_51_0 rfl rfl rfl, p_loadSh Tryz.isAgg25 Tryz.sizeOf25 rfl rfl rfl rfl, p_len (m := l.length) Tryz.runUnderlying25 rfl (rlen_pts _) rfl, p_cmp rfl rfl rfl rfl, p_move rfl rfl, p_gskip rfl rfl (decide_eq_false (by omega)) rfl, p_gskip rfl rfl (decide_eq_false (by omega)) rfl, p_gskip rfl rfl (decide_eq_false (by omega)) rfl, p_gskip rfl rfl (decide_eq_false (by omega)) rfl, p_gskip rfl rfl (decide_eq_false (by omega)) rfl, p_gskip rfl rfl (decide_eq_false (by omega)) rfl, p_gskip rfl rfl (decide_eq_false (by omega)) rfl, p_gskip rfl rfl (decide_eq_false (by omega)) rfl, p_pickF rfl (decide_eq_false (by omega)) rfl rfl, p_assign rfl rfl, trivial⟩ rfl ?_
 refine w_ (p_assign rfl rfl) ?_
 refine aw_nil ?_
 have hk : k = l.length := by omega
 have hpos := pos_eq hp1 (.inl hk)
 have hhas : has l id = false := by unfold has; rw [hpos, List.getElem?_eq_none (by omega)]
 refine ac_ret ?_
 exact retB_2 Tryz.results41 (rv_tmp rfl rfl) (rv_tmp rfl rfl) (by rw [hpos, hhas])
theorem d_crowd_Put {lx ly : List (List LV)} {px py : List Int} {b : Bool} {ll : List Nat} {d id : Int} {l : List Pt} (hx : IsInts lx px) (hy : IsInts ly py) (hd : IsInt (.bool b) (u32r ll) d) (hk : Cs 4294967294 1073741824 (Crv.mk px py d)) (hl : l.length ≤ 1000000) : Does Tryz.prog 22 [.agg [pts l], .agg [.row lx, .row ly, .bool b, u32r ll, .int .i64 id]] (.tup [.agg [pts ((if putE l (Pt.mk (Crv.norm (Crv.mk px py d)) id) = 0 then put l (Pt.mk (Crv.norm (Crv.mk px py d)) id) else l))], .one (.int .i64 (putE l (Pt.mk (Crv.norm (Crv.mk px py d)) id)))]) := by
 refine does_ (n := 42) Tryz.func22 rfl Tryz.ntmps22 rfl ?_
 have hpl := pos_le l id
 have htl : (l.take (pos l id)).length = pos l id := by rw [List.length_take]; omega
 have hdl : (l.drop (pos l id)).length = l.length - pos l id := List.length_drop ..
 by_cases h1 : has l id = true
 ·skip
  refine ac_seq (ac_reg ?_)
  refine w_ (p_boxS rfl rfl rfl rfl) ?_
  refine w_ (p_boxS rfl rfl rfl rfl) ?_
  refine a_alloc Tryz.zeroValue51 rfl rfl fun g1 => ?_
  refine w_ (p_assign rfl rfl) ?_
  refine aw_nil ?_
  refine ac_seq (ac_reg ?_)
  refine w_ (p_loadSh Tryz.isAgg51 Tryz.sizeOf51 rfl rfl rfl rfl) ?_
  refine w_ (p_fieldSh fa_35_1 rfl rfl rfl) ?_
  refine w_ (p_loadSh Tryz.isAgg3 Tryz.sizeOf3 rfl rfl rfl rfl) ?_
  refine w_ (p_call Tryz.func41 rfl rfl rfl rfl (d_crowd_at (by omega)) rfl) ?_
  refine w_ (p_move rfl rfl) ?_
  refine w_ (p_extract rfl rfl rfl) ?_
  refine w_ (p_extract rfl rfl rfl) ?_
  refine w_ (p_assign rfl rfl) ?_
  refine w_ (p_assign rfl rfl) ?_
  refine aw_nil ?_
  refine ac_seq (ac_block (ac_seq (ac_reg ?_)))
  refine w_ (p_move rfl rfl) ?_
  refine w_ (p_assign rfl rfl) ?_
  refine aw_nil ?_
  refine ac_t rfl (h1) ?_
  refine ac_seq (ac_reg ?_)
  refine w_ (p_loadSh Tryz.isAgg51 Tryz.sizeOf51 rfl rfl rfl rfl) ?_
  refine a_storeOw 0 Tryz.sizeOf51 rfl rfl rfl rfl rfl rfl rfl ?_
  refine w_ (p_assign rfl rfl) ?_
  refine aw_nil ?_
  have he : putE l (Pt.mk (Crv.norm (Crv.mk px py d)) id) = 6 := by unfold putE; rw [if_pos h1]
  refine ac_ret ?_
  exact retB_2 Tryz.results22 (rv_cell 0 Tryz.isAgg51 Tryz.sizeOf51 rfl rfl rfl rfl rfl) (rv_tmp rfl rfl) (by rw [he]; rfl)
 replace h1 : has l id = false := by simpa using h1
 by_cases h2 : 6 ≤ l.length
 ·skip
  refine ac_seq (ac_reg ?_)
  refine w_ (p_boxS rfl rfl rfl rfl) ?_
  refine w_ (p_boxS rfl rfl rfl rfl) ?_
  refine a_alloc Tryz.zeroValue51 rfl rfl fun g2 => ?_
  refine w_ (p_assign rfl rfl) ?_
  refine aw_nil ?_
  refine ac_seq (ac_reg ?_)
  refine w_ (p_loadSh Tryz.isAgg51 Tryz.sizeOf51 rfl rfl rfl rfl) ?_
  refine w_ (p_fieldSh fa_35_1 rfl rfl rfl) ?_
  refine w_ (p_loadSh Tryz.isAgg3 Tryz.sizeOf3 rfl rfl rfl rfl) ?_
  refine w_ (p_call Tryz.func41 rfl rfl rfl rfl (d_crowd_at (by omega)) rfl) ?_
  refine w_ (p_move rfl rfl) ?_
  refine w_ (p_extract rfl rfl rfl) ?_
  refine w_ (p_extract rfl rfl rfl) ?_
  refine w_ (p_assign rfl rfl) ?_
  refine w_ (p_assign rfl rfl) ?_
  refine aw_nil ?_
  refine ac_seq (ac_block (ac_seq (ac_reg ?_)))
  refine w_ (p_move rfl rfl) ?_
  refine w_ (p_assign rfl rfl) ?_
  refine aw_nil ?_
  refine ac_f rfl (h1) ?_
  refine ac_seq (ac_reg ?_)
  refine w_ (p_fieldSh fa_51_0 rfl rfl rfl) ?_
  refine w_ (p_loadSh Tryz.isAgg25 Tryz.sizeOf25 rfl rfl rfl rfl) ?_
  refine w_ (p_len (m := l.length) Tryz.runUnderlying25 rfl (rlen_pts _) rfl) ?_
  refine w_ (p_cmp rfl rfl rfl rfl) ?_
  refine w_ (p_assign rfl rfl) ?_
  refine aw_nil ?_
  refine ac_t rfl (decide_eq_true (by omega)) ?_
  refine ac_seq (ac_reg ?_)
  refine w_ (p_loadSh Tryz.isAgg51 Tryz.sizeOf51 rfl rfl rfl rfl) ?_
  refine a_storeOw 0 Tryz.sizeOf51 rfl rfl rfl rfl rfl rfl rfl ?_
  refine w_ (p_assign rfl rfl) ?_
  refine aw_nil ?_
  have he : putE l (Pt.mk (Crv.norm (Crv.mk px py d)) id) = 9 := by unfold putE; rw [if_neg (by rw [h1]; decide), if_pos h2]
  refine ac_ret ?_
  exact retB_2 Tryz.results22 (rv_cell 0 Tryz.isAgg51 Tryz.sizeOf51 rfl rfl rfl rfl rfl) (rv_tmp rfl rfl) (by rw [he]; rfl)
 skip
 refine ac_seq (ac_reg ?_)
 refine w_ (p_boxS rfl rfl rfl rfl) ?_
 refine w_ (p_boxS rfl rfl rfl rfl) ?_
 refine a_alloc Tryz.zeroValue51 rfl rfl fun g3 => ?_
 refine w_ (p_assign rfl rfl) ?_
 refine aw_nil ?_
 refine ac_seq (ac_reg ?_)
 refine w_ (p_loadSh Tryz.isAgg51 Tryz.sizeOf51 rfl rfl rfl rfl) ?_
 refine w_ (p_fieldSh fa_35_1 rfl rfl rfl) ?_
 refine w_ (p_loadSh Tryz.isAgg3 Tryz.sizeOf3 rfl rfl rfl rfl) ?_
 refine w_ (p_call Tryz.func41 rfl rfl rfl rfl (d_crowd_at (by omega)) rfl) ?_
 refine w_ (p_move rfl rfl) ?_
 refine w_ (p_extract rfl rfl rfl) ?_
 refine w_ (p_extract rfl rfl rfl) ?_
 refine w_ (p_assign rfl rfl) ?_
 refine w_ (p_assign rfl rfl) ?_
 refine aw_nil ?_
 refine ac_seq (ac_block (ac_seq (ac_reg ?_)))
 refine w_ (p_move rfl rfl) ?_
 refine w_ (p_assign rfl rfl) ?_
 refine aw_nil ?_
 refine ac_f rfl (h1) ?_
 refine ac_seq (ac_reg ?_)
 refine w_ (p_fieldSh fa_51_0 rfl rfl rfl) ?_
 refine w_ (p_loadSh Tryz.isAgg25 Tryz.sizeOf25 rfl rfl rfl rfl) ?_
 refine w_ (p_len (m := l.length) Tryz.runUnderlying25 rfl (rlen_pts _) rfl) ?_
 refine w_ (p_cmp rfl rfl rfl rfl) ?_
 refine w_ (p_assign rfl rfl) ?_
 refine aw_nil ?_
 refine ac_f rfl (decide_eq_false (by omega)) ?_
 refine ac_skip ?_
 refine ac_seq (ac_reg ?_)
 refine w_ (p_fieldSh fa_51_0 rfl rfl rfl) ?_
 refine w_ (p_loadSh Tryz.isAgg25 Tryz.sizeOf25 rfl rfl rfl rfl) ?_
 refine w_ (p_move rfl rfl) ?_
 refine w_ (p_sliceHi (pos l id) Tryz.runUnderlying25 Tryz.sizeOf35 rfl rfl rfl (by rw [List.length_map]; exact pos_le l id) (map_w l (fun _ => rfl)) (l' := (l.take (pos l id)).map ofPt) (by rw [List.map_take]) rfl) ?_
 refine a_appendN (ls2 := (l.take (pos l id)).map ofPt) (m2 := (l.take (pos l id)).length) Tryz.runUnderlying25 Tryz.runUnderlying25 Tryz.typeInfo35 rfl rfl Tryz.sizeOf35 Tryz.zeroValue35 rfl rfl rfl rfl rfl rfl rfl (map_w _ (fun _ => rfl)) (map_f _ (fun _ => rfl)) (by rw [List.length_map]; omega) (rfl) (List.length_map _) fun r4 => ?_
 refine w_ (p_assign rfl rfl) ?_
 refine aw_nil ?_
 refine ac_seq (ac_reg ?_)
 refine w_ (p_move rfl rfl) ?_
 refine w_ (p_loadSh Tryz.isAgg35 Tryz.sizeOf35 rfl rfl rfl rfl) ?_
 refine w_ (p_call Tryz.func42 rfl rfl rfl rfl (d_crowd_fresh hx hy hd (hk)) rfl) ?_
 refine w_ (p_lit Tryz.runUnderlying25 Tryz.sizeOf35 Tryz.zeroValue35 rfl rfl rfl rfl rfl rfl rfl rfl rfl rfl) ?_
 refine a_append (ls2 := (l.take (pos l id) ++ [(Pt.mk (Crv.norm (Crv.mk px py d)) id)]).map ofPt) (m2 := (l.take (pos l id)).length + 1) 0 Tryz.runUnderlying25 Tryz.runUnderlying25 Tryz.typeInfo35 rfl rfl Tryz.sizeOf35 Tryz.zeroValue35 rfl rfl rfl rfl rfl rfl rfl (by rw [List.length_map]; omega) (one_w rfl) (one_f rfl) (by show _ + 1 < _; omega) (by rw [List.take_of_length_le (by rw [List.length_map]; omega), List.map_append]; rfl) (rfl) fun r5 => ?_
 refine w_ (p_assign rfl rfl) ?_
 refine aw_nil ?_
 refine ac_seq (ac_reg ?_)
 refine w_ (p_move rfl rfl) ?_
 refine w_ (p_fieldSh fa_51_0 rfl rfl rfl) ?_
 refine w_ (p_loadSh Tryz.isAgg25 Tryz.sizeOf25 rfl rfl rfl rfl) ?_
 refine w_ (p_move rfl rfl) ?_
 refine w_ (p_sliceLo (pos l id) Tryz.runUnderlying25 Tryz.sizeOf35 rfl rfl rfl (by rw [List.length_map]; exact pos_le l id) (map_w l (fun _ => rfl)) (l' := (l.drop (pos l id)).map ofPt) (by rw [List.map_drop]) rfl) ?_
 refine a_append (ls2 := (put l (Pt.mk (Crv.norm (Crv.mk px py d)) id)).map ofPt) (m2 := (l.take (pos l id)).length + 1 + (l.drop (pos l id)).length) 0 Tryz.runUnderlying25 Tryz.runUnderlying25 Tryz.typeInfo35 rfl rfl Tryz.sizeOf35 Tryz.zeroValue35 rfl rfl rfl rfl rfl rfl rfl (by rw [List.length_map, List.length_append]; exact Nat.le_refl _) (map_w _ (fun _ => rfl)) (map_f _ (fun _ => rfl)) (by rw [List.length_map]; omega) (by rw [List.take_of_length_le (by rw [List.length_map, List.length_append]; exact Nat.le_refl _), ← List.map_append, List.append_assoc]; rfl) (by rw [List.length_map]) fun r6 => ?_
 refine aw_pub 0 [40] rfl (allAre1 rfl) (by rw [List.length_map, put_len]; omega) (by rw [List.length_map, put_len]; omega) rfl ?_
 refine w_ (p_build (bd_51) rfl rfl rfl rfl) ?_
 refine a_storeOw 0 Tryz.sizeOf51 rfl rfl rfl rfl rfl rfl rfl ?_
 refine w_ (p_assign rfl rfl) ?_
 refine aw_nil ?_
 have he : putE l (Pt.mk (Crv.norm (Crv.mk px py d)) id) = 0 := by unfold putE; rw [if_neg (by rw [h1]; decide), if_neg h2]
 refine ac_ret ?_
 exact retB_2 Tryz.results22 (rv_cell 0 Tryz.isAgg51 Tryz.sizeOf51 rfl rfl rfl rfl rfl) (rv_tmp rfl rfl) (by rw [he]; rfl)
theorem newL_len : ∀ (qs : List Pt), (newL [] qs).1.length ≤ qs.length := by
 have key : ∀ (qs acc : List Pt), (newL acc qs).1.length ≤ acc.length + qs.length := by
  intro qs
  induction qs with
  | nil => intro acc; simp [newL]
  | cons q qs ih =>
   intro acc
   simp only [newL]
   split
   ·have := ih (put acc q); rw [put_len] at this; simp only [List.length_cons]; omega
   ·simp
 intro qs
 have := key qs []
 simpa using this
theorem d_crowd_New {zs : List (List LV)} {qs : List Pt} (hz : IsPts 4294967294 1073741824 zs qs) (hl : qs.length ≤ 6) : Does Tryz.prog 13 [.one (.row zs)] (.tup [.agg [pts ((newL [] qs).1)], .one (.int .i64 ((newL [] qs).2))]) := by
 refine does_ (n := 30) Tryz.func13 rfl Tryz.ntmps13 rfl ?_
 refine ac_seq (ac_reg ?_)
 refine a_alloc Tryz.zeroValue51 rfl rfl fun g1 => ?_
 refine w_ (p_assign rfl rfl) ?_
 refine aw_nil ?_
 refine ac_seq (ac_seq (ac_reg ?_))
 refine w_ (p_move rfl rfl) ?_
 refine w_ (p_len (m := qs.length) Tryz.runUnderlying25 rfl (by simp only [rlen]; rw [hz.len]) rfl) ?_
 refine w_ (p_cmp rfl rfl rfl rfl) ?_
 refine aw_nil ?_
 refine ac_f rfl (decide_eq_false (by omega)) ?_
 refine ac_skip ?_
 refine ac_seq (ac_reg ?_)
 refine a_alloc Tryz.zeroValue51 rfl rfl fun g2 => ?_
 refine aw_nil ?_
 refine ac_seq (ac_seq (ac_reg ?_))
 refine w_ (p_move rfl rfl) ?_
 refine w_ (p_len (m := qs.length) Tryz.runUnderlying25 rfl (by simp only [rlen]; rw [hz.len]) rfl) ?_
 refine w_ (p_move rfl rfl) ?_
 refine aw_nil ?_
 refine ac_block ?_
 refine ac_blk (ys := [pts ((newL [] (qs.take 0)).1)]) 0 rfl rfl rfl ?_
 refine ac_pick [2, 3, 4, 12, 13, 14] rfl ?_
 refine ac_loop (fun m L B => ∃ i, i ≤ qs.length ∧ (newL [] (qs.take i)).2 = 0 ∧ m = qs.length - i ∧ L = [(2, .one (.ow g1 0)), (3, .one (.int .i64 0)), (4, .one (.ow g2 0)), (12, .one (.row zs)), (13, .one (.int .i64 (((qs.length : Nat) : Int)))), (14, .one (.int .i64 ((i : Int))))] ∧ B = [.blk g2 51 [pts ((newL [] (qs.take i)).1)], .blk g1 51 [.nils]]) (m := _) ⟨0, Nat.zero_le _, rfl, rfl, rfl, rfl⟩ ?_
 rintro m L B ⟨i, hp0, hp1, hm, rfl, rfl⟩
 by_cases hlt : i < qs.length
 ·have hqi : qs[i]? = some qs[i] := List.getElem?_eq_getElem hlt
  obtain ⟨z, hz, lx, ly, b, ll, px, py, d, rfl, hx, hy, hd, hk, hc⟩ := hz.get hqi
  have hq : (Pt.mk (Crv.norm (Crv.mk px py d)) qs[i].id) = qs[i] := by rw [← hc]
  have hst := newL_step [] qs hqi (by rw [← hp1])
  have hnl := newL_len (qs.take i)
  rw [List.length_take, Nat.min_eq_left hp0] at hnl
  by_cases he : putE (newL [] (qs.take i)).1 (Pt.mk (Crv.norm (Crv.mk px py d)) qs[i].id) = 0
  ·have hstep : (newL [] (qs.take (i + 1))).1 = put (newL [] (qs.take i)).1 (Pt.mk (Crv.norm (Crv.mk px py d)) qs[i].id) := by rw [hst, ← hq, if_pos he]
   have hst2 : (newL [] (qs.take (i + 1))).2 = 0 := by rw [hst, ← hq, if_pos he]
   refine ac_seq (ac_reg ?_)
   refine w_ (p_cmp rfl rfl rfl rfl) ?_
   refine aw_nil ?_
   refine ac_seq ?_
   refine ac_t rfl (decide_eq_true (by omega)) ?_
   refine ac_skip ?_
   refine ac_seq (ac_block (ac_seq (ac_reg ?_)))
   refine w_ (p_index (i) Tryz.runUnderlying25 Tryz.sizeOf35 rfl rfl (rfl) (hz) rfl rfl) ?_
   refine w_ (p_loadSh Tryz.isAgg35 Tryz.sizeOf35 rfl rfl rfl rfl) ?_
   refine a_alloc Tryz.zeroValue35 rfl rfl fun g3 => ?_
   refine a_storeOw 0 Tryz.sizeOf35 rfl rfl rfl rfl rfl rfl rfl ?_
   refine aw_nil ?_
   refine ac_seq (ac_reg ?_)
   refine w_ (p_assign rfl rfl) ?_
   refine aw_nil ?_
   refine ac_seq (ac_reg ?_)
   refine w_ (p_loadOw 1 Tryz.isAgg51 Tryz.sizeOf51 rfl rfl rfl rfl rfl) ?_
   refine w_ (p_loadOw 0 Tryz.isAgg35 Tryz.sizeOf35 rfl rfl rfl rfl rfl) ?_
   refine w_ (p_call Tryz.func22 rfl rfl rfl rfl (d_crowd_Put hx hy hd (hk) (by omega)) rfl) ?_
   refine w_ (p_move rfl rfl) ?_
   refine w_ (p_extract rfl rfl rfl) ?_
   refine w_ (p_extract rfl rfl rfl) ?_
   refine a_storeOw 1 Tryz.sizeOf51 rfl rfl rfl rfl rfl rfl rfl ?_
   refine w_ (p_assign rfl rfl) ?_
   refine aw_nil ?_
   refine ac_seq (ac_reg ?_)
   refine w_ (p_move rfl rfl) ?_
   refine w_ (p_cmp rfl rfl rfl rfl) ?_
   refine aw_nil ?_
   refine ac_f rfl (decide_eq_false (fun h => h he)) ?_
   refine ac_skip ?_
   refine ac_reg ?_
   refine w_ (p_add (r := ((i + 1 : Nat) : Int)) rfl rfl (i64_is (by omega) (by omega)) rfl) ?_
   refine w_ (p_move rfl rfl) ?_
   refine aw_blk (ys := [pts ((newL [] (qs.take (i + 1))).1)]) 1 rfl rfl (by rw [if_pos he, hstep]) ?_
   refine aw_pick [2, 3, 4, 12, 13, 14] rfl ?_
   refine aw_drop 1 rfl ?_
   refine aw_nil ?_
   refine ⟨_, ?_, i + 1, by omega, hst2, rfl, rfl, rfl⟩
   omega
  have herr : newL [] qs = ([], putE (newL [] (qs.take i)).1 (Pt.mk (Crv.norm (Crv.mk px py d)) qs[i].id)) := newL_err [] qs he (by rw [hst, ← hq, if_neg he])
  refine ac_seq (ac_reg ?_)
  refine w_ (p_cmp rfl rfl rfl rfl) ?_
  refine aw_nil ?_
  refine ac_seq ?_
  refine ac_t rfl (decide_eq_true (by omega)) ?_
  refine ac_skip ?_
  refine ac_seq (ac_block (ac_seq (ac_reg ?_)))
  refine w_ (p_index (i) Tryz.runUnderlying25 Tryz.sizeOf35 rfl rfl (rfl) (hz) rfl rfl) ?_
  refine w_ (p_loadSh Tryz.isAgg35 Tryz.sizeOf35 rfl rfl rfl rfl) ?_
  refine a_alloc Tryz.zeroValue35 rfl rfl fun g4 => ?_
  refine a_storeOw 0 Tryz.sizeOf35 rfl rfl rfl rfl rfl rfl rfl ?_
  refine aw_nil ?_
  refine ac_seq (ac_reg ?_)
  refine w_ (p_assign rfl rfl) ?_
  refine aw_nil ?_
  refine ac_seq (ac_reg ?_)
  refine w_ (p_loadOw 1 Tryz.isAgg51 Tryz.sizeOf51 rfl rfl rfl rfl rfl) ?_
  refine w_ (p_loadOw 0 Tryz.isAgg35 Tryz.sizeOf35 rfl rfl rfl rfl rfl) ?_
  refine w_ (p_call Tryz.func22 rfl rfl rfl rfl (d_crowd_Put hx hy hd (hk) (by omega)) rfl) ?_
  refine w_ (p_move rfl rfl) ?_
  refine w_ (p_extract rfl rfl rfl) ?_
  refine w_ (p_extract rfl rfl rfl) ?_
  refine a_storeOw 1 Tryz.sizeOf51 rfl rfl rfl rfl rfl rfl rfl ?_
  refine w_ (p_assign rfl rfl) ?_
  refine aw_nil ?_
  refine ac_seq (ac_reg ?_)
  refine w_ (p_move rfl rfl) ?_
  refine w_ (p_cmp rfl rfl rfl rfl) ?_
  refine aw_nil ?_
  refine ac_t rfl (decide_eq_true he) ?_
  refine ac_seq (ac_reg ?_)
  refine w_ (p_build (bd_51) rfl rfl rfl rfl) ?_
  refine w_ (p_move rfl rfl) ?_
  refine a_storeOw 2 Tryz.sizeOf51 rfl rfl rfl rfl rfl rfl rfl ?_
  refine w_ (p_assign rfl rfl) ?_
  refine aw_nil ?_
  refine ac_ret ?_
  exact retB_2 Tryz.results13 (rv_cell 2 Tryz.isAgg51 Tryz.sizeOf51 rfl rfl rfl rfl rfl) (rv_tmp rfl rfl) (by rw [herr]; rfl)
 skip
 refine ac_seq (ac_reg ?_)
 refine w_ (p_cmp rfl rfl rfl rfl) ?_
 refine aw_nil ?_
 refine ac_seq ?_
 refine ac_f rfl (decide_eq_false (by omega)) ?_
 refine ac_exit ?_
 repeat refine seqQ_exit ?_
 refine blkQ_here ?_
 refine ac_seq (ac_reg ?_)
 refine w_ (p_loadOw 0 Tryz.isAgg51 Tryz.sizeOf51 rfl rfl rfl rfl rfl) ?_
 refine a_storeOw 1 Tryz.sizeOf51 rfl rfl rfl rfl rfl rfl rfl ?_
 refine w_ (p_assign rfl rfl) ?_
 refine aw_nil ?_
 have hi : qs.take i = qs := List.take_of_length_le (by omega)
 rw [hi] at hp1
 refine ac_ret ?_
 exact retB_2 Tryz.results13 (rv_cell 1 Tryz.isAgg51 Tryz.sizeOf51 rfl rfl rfl rfl rfl) (rv_tmp rfl rfl) (by rw [hi, hp1])
theorem d_crowd_Ways {l : List Pt} (hok : ∀ p ∈ l, PtOk 4294967294 1073741824 p) (hl : l.length < 1073741824) : Does Tryz.prog 27 [.agg [pts l]] (.one (pts ((ways l)))) := by
 refine does_ (n := 39) Tryz.func27 rfl Tryz.ntmps27 rfl ?_
 refine ac_seq (ac_reg ?_)
 refine w_ (p_boxS rfl rfl rfl rfl) ?_
 refine w_ (p_assign rfl rfl) ?_
 refine aw_nil ?_
 refine ac_seq (ac_reg ?_)
 refine w_ (p_assign rfl rfl) ?_
 refine aw_nil ?_
 refine ac_seq (ac_seq (ac_reg ?_))
 refine w_ (p_fieldSh fa_51_0 rfl rfl rfl) ?_
 refine w_ (p_loadSh Tryz.isAgg25 Tryz.sizeOf25 rfl rfl rfl rfl) ?_
 refine w_ (p_len (m := l.length) Tryz.runUnderlying25 rfl (rlen_pts _) rfl) ?_
 refine w_ (p_move rfl rfl) ?_
 refine aw_nil ?_
 refine ac_block ?_
 refine ac_ownNil [3] 35 5 rfl (allAre1 rfl) rfl ?_
 refine ac_pick [3, 10, 11, 12] rfl ?_
 refine ac_loop (fun m L B => ∃ i r nw, i ≤ l.length ∧ nw = ((l.take i).foldl waysF []).length ∧ m = l.length - i ∧ L = [(3, .one (.orow r 5 0 nw)), (10, .one (pts l)), (11, .one (.int .i64 (((l.length : Nat) : Int)))), (12, .one (.int .i64 ((i : Int))))] ∧ B = [.row r 35 5 (((l.take i).foldl waysF []).map ofPt)]) (m := _) ⟨0, none, 0, Nat.zero_le _, rfl, rfl, rfl, rfl⟩ ?_
 rintro m L B ⟨i, r, nw, hp0, hp1, hm, rfl, rfl⟩
 have hwl := ways_take_len l i
 by_cases hlt : i < l.length
 ·obtain ⟨p, hp⟩ : ∃ p, l[i]? = some p := ⟨_, List.getElem?_eq_getElem hlt⟩
  have hpk := hok p (List.mem_of_getElem? hp)
  have hws := foldl_take_succ waysF [] l hp
  refine ac_seq (ac_reg ?_)
  refine w_ (p_cmp rfl rfl rfl rfl) ?_
  refine aw_nil ?_
  refine ac_seq ?_
  refine ac_t rfl (decide_eq_true (by omega)) ?_
  refine ac_skip ?_
  refine ac_seq (ac_block (ac_seq (ac_reg ?_)))
  refine w_ (p_index (i) Tryz.runUnderlying25 Tryz.sizeOf35 rfl rfl (rfl) (map_get hp) rfl rfl) ?_
  refine w_ (p_loadSh Tryz.isAgg35 Tryz.sizeOf35 rfl rfl rfl rfl) ?_
  refine a_alloc Tryz.zeroValue35 rfl rfl fun g1 => ?_
  refine a_storeOw 0 Tryz.sizeOf35 rfl rfl rfl rfl rfl rfl rfl ?_
  refine aw_nil ?_
  refine ac_seq (ac_reg ?_)
  refine w_ (p_assign rfl rfl) ?_
  refine aw_nil ?_
  refine ac_seq (ac_seq (ac_reg ?_))
  refine w_ (p_move rfl rfl) ?_
  refine w_ (p_len (m := nw) Tryz.runUnderlying25 rfl (rfl) rfl) ?_
  refine w_ (p_move rfl rfl) ?_
  refine aw_nil ?_
  refine ac_block ?_
  refine ac_pick [3, 5, 6, 10, 11, 12, 16, 17, 18] rfl ?_
  refine ac_front 0 rfl ?_
  refine ac_front 1 rfl ?_
  refine ac_loop (fun m L B => ∃ k, k ≤ nw ∧ m = nw - k ∧ L = [(3, .one (.orow r 5 0 nw)), (5, .one (.ow g1 0)), (6, .one (.bool (((((l.take i).foldl waysF []).take k).any (fun q => crvEq p.c q.c))))), (10, .one (pts l)), (11, .one (.int .i64 (((l.length : Nat) : Int)))), (12, .one (.int .i64 ((i : Int)))), (16, .one (.orow r 5 0 nw)), (17, .one (.int .i64 (((nw : Nat) : Int)))), (18, .one (.int .i64 ((k : Int))))] ∧ B = [.row r 35 5 (((l.take i).foldl waysF []).map ofPt), .blk g1 35 [pl p.c.x, pl p.c.y, sg p.c.d, mg p.c.d, .int .i64 p.id]]) (m := _) ⟨0, Nat.zero_le _, rfl, rfl, rfl⟩ ?_
  rintro m L B ⟨k, hk0, hm, rfl, rfl⟩
  by_cases hlt2 : k < nw
  ·obtain ⟨q, hq⟩ : ∃ q, ((l.take i).foldl waysF [])[k]? = some q := ⟨_, List.getElem?_eq_getElem (by omega)⟩
   have hqk := hok q (ways_take_mem l i q (List.mem_of_getElem? hq))
   have hany : ((((l.take i).foldl waysF []).take (k + 1)).any (fun q => crvEq p.c q.c)) = (((((l.take i).foldl waysF []).take k).any (fun q => crvEq p.c q.c)) || crvEq p.c q.c) := by rw [List.take_add_one, hq, List.any_append]; simp
   rcases Bool.eq_false_or_eq_true ((((l.take i).foldl waysF []).take k).any (fun q => crvEq p.c q.c)) with hb | hb
   ·rw [hb, Bool.true_or] at hany
    refine ac_seq (ac_reg ?_)
    refine w_ (p_cmp rfl rfl rfl rfl) ?_
    refine aw_nil ?_
    refine ac_seq ?_
    refine ac_t rfl (decide_eq_true (by omega)) ?_
    refine ac_skip ?_
    refine ac_seq (ac_block (ac_seq (ac_reg ?_)))
    refine w_ (p_indexO (k) Tryz.runUnderlying25 Tryz.sizeOf35 rfl rfl (rfl) (by omega) rfl) ?_
    refine w_ (p_loadO 0 Tryz.isAgg35 Tryz.sizeOf35 rfl rfl (by rw [Nat.zero_add]; exact map_get hq) rfl rfl rfl) ?_
    refine a_alloc Tryz.zeroValue35 rfl rfl fun g2 => ?_
    refine a_storeOw 0 Tryz.sizeOf35 rfl rfl rfl rfl rfl rfl rfl ?_
    refine aw_nil ?_
    refine ac_reg ?_
    refine w_ (p_move rfl rfl) ?_
    refine w_ (p_move rfl rfl) ?_
    refine w_ (p_gskip rfl rfl (hb) rfl) ?_
    refine w_ (p_gskip rfl rfl (hb) rfl) ?_
    refine w_ (p_gskip rfl rfl (hb) rfl) ?_
    refine w_ (p_gskip rfl rfl (hb) rfl) ?_
    refine w_ (p_gskip rfl rfl (hb) rfl) ?_
    refine w_ (p_pickT rfl (hb) rfl rfl) ?_
    refine w_ (p_assign rfl rfl) ?_
    refine aw_nil ?_
    refine ac_reg ?_
    refine w_ (p_add (r := ((k + 1 : Nat) : Int)) rfl rfl (i64_is (by omega) (by omega)) rfl) ?_
    refine w_ (p_move rfl rfl) ?_
    refine aw_slotEq (y := .one (.bool ((((l.take i).foldl waysF []).take (k + 1)).any (fun q => crvEq p.c q.c)))) 6 rfl (by rw [hany]) ?_
    refine aw_pick [3, 5, 6, 10, 11, 12, 16, 17, 18] rfl ?_
    refine aw_drop 0 rfl ?_
    refine aw_nil ?_
    refine ⟨_, ?_, k + 1, by omega, rfl, rfl, rfl⟩
    omega
   rw [hb, Bool.false_or] at hany
   refine ac_seq (ac_reg ?_)
   refine w_ (p_cmp rfl rfl rfl rfl) ?_
   refine aw_nil ?_
   refine ac_seq ?_
   refine ac_t rfl (decide_eq_true (by omega)) ?_
   refine ac_skip ?_
   refine ac_seq (ac_block (ac_seq (ac_reg ?_)))
   refine w_ (p_indexO (k) Tryz.runUnderlying25 Tryz.sizeOf35 rfl rfl (rfl) (by omega) rfl) ?_
   refine w_ (p_loadO 0 Tryz.isAgg35 Tryz.sizeOf35 rfl rfl (by rw [Nat.zero_add]; exact map_get hq) rfl rfl rfl) ?_
   refine a_alloc Tryz.zeroValue35 rfl rfl fun g3 => ?_
   refine a_storeOw 0 Tryz.sizeOf35 rfl rfl rfl rfl rfl rfl rfl ?_
   refine aw_nil ?_
   refine ac_reg ?_
   refine w_ (p_move rfl rfl) ?_
   refine w_ (p_move rfl rfl) ?_
   refine w_ ((p_grun rfl rfl (hb) (p_fieldOw fa_35_0 rfl rfl))) ?_
   refine w_ ((p_grun rfl rfl (hb) (p_loadOw 2 Tryz.isAgg32 Tryz.sizeOf32 rfl rfl rfl rfl rfl))) ?_
   refine w_ ((p_grun rfl rfl (hb) (p_fieldOw fa_35_0 rfl rfl))) ?_
   refine w_ ((p_grun rfl rfl (hb) (p_loadOw 0 Tryz.isAgg32 Tryz.sizeOf32 rfl rfl rfl rfl rfl))) ?_
   refine w_ ((p_grun rfl rfl (hb) (p_call Tryz.func54 rfl rfl rfl rfl (d_curve_Same (hpk.1) (hqk.1) (hpk.2) (hqk.2)) rfl))) ?_
   refine w_ (p_pickF rfl (hb) rfl rfl) ?_
   refine w_ (p_assign rfl rfl) ?_
   refine aw_nil ?_
   refine ac_reg ?_
   refine w_ (p_add (r := ((k + 1 : Nat) : Int)) rfl rfl (i64_is (by omega) (by omega)) rfl) ?_
   refine w_ (p_move rfl rfl) ?_
   refine aw_slotEq (y := .one (.bool ((((l.take i).foldl waysF []).take (k + 1)).any (fun q => crvEq p.c q.c)))) 6 rfl (by rw [hany]) ?_
   refine aw_pick [3, 5, 6, 10, 11, 12, 16, 17, 18] rfl ?_
   refine aw_drop 0 rfl ?_
   refine aw_nil ?_
   refine ⟨_, ?_, k + 1, by omega, rfl, rfl, rfl⟩
   omega
  have hany : ((((l.take i).foldl waysF []).take k).any (fun q => crvEq p.c q.c)) = ((l.take i).foldl waysF []).any (fun q => crvEq p.c q.c) := by rw [List.take_of_length_le (by omega)]
  by_cases hbb : ((l.take i).foldl waysF []).any (fun q => crvEq p.c q.c) = true
  ·have hst : ((l.take i).foldl waysF []) = ((l.take (i + 1)).foldl waysF []) := by rw [hws]; exact (if_pos hbb).symm
   have hml : nw = ((l.take (i + 1)).foldl waysF []).length := by rw [← hst]; exact hp1
   refine ac_seq (ac_reg ?_)
   refine w_ (p_cmp rfl rfl rfl rfl) ?_
   refine aw_nil ?_
   refine ac_seq ?_
   refine ac_f rfl (decide_eq_false (by omega)) ?_
   refine ac_exit ?_
   repeat refine seqQ_exit ?_
   refine blkQ_here ?_
   refine ac_seq (ac_reg ?_)
   refine w_ (p_move rfl rfl) ?_
   refine w_ (p_not rfl rfl) ?_
   refine aw_nil ?_
   refine ac_f rfl (by rw [hany, hbb]; rfl) ?_
   refine ac_skip ?_
   refine ac_reg ?_
   refine w_ (p_add (r := ((i + 1 : Nat) : Int)) rfl rfl (i64_is (by omega) (by omega)) rfl) ?_
   refine w_ (p_move rfl rfl) ?_
   refine aw_rowEq (ls' := ((l.take (i + 1)).foldl waysF []).map ofPt) 0 rfl (by rw [hst]) ?_
   refine aw_pick [3, 10, 11, 12] rfl ?_
   refine aw_drop 1 rfl ?_
   refine aw_nil ?_
   refine ⟨_, ?_, i + 1, _, _, by omega, hml, rfl, rfl, rfl⟩
   omega
  have hst0 : ((l.take i).foldl waysF []) ++ [p] = ((l.take (i + 1)).foldl waysF []) := by rw [hws]; exact (if_neg hbb).symm
  have hst : (((l.take i).foldl waysF []) ++ [p]) = ((l.take (i + 1)).foldl waysF []) := hst0
  have hml : nw + 1 = ((l.take (i + 1)).foldl waysF []).length := by rw [← hst, List.length_append, ← hp1]; rfl
  refine ac_seq (ac_reg ?_)
  refine w_ (p_cmp rfl rfl rfl rfl) ?_
  refine aw_nil ?_
  refine ac_seq ?_
  refine ac_f rfl (decide_eq_false (by omega)) ?_
  refine ac_exit ?_
  repeat refine seqQ_exit ?_
  refine blkQ_here ?_
  refine ac_seq (ac_reg ?_)
  refine w_ (p_move rfl rfl) ?_
  refine w_ (p_not rfl rfl) ?_
  refine aw_nil ?_
  refine ac_t rfl (by rw [hany, show ((l.take i).foldl waysF []).any (fun q => crvEq p.c q.c) = false from by simpa using hbb]; rfl) ?_
  refine ac_reg ?_
  refine w_ (p_move rfl rfl) ?_
  refine w_ (p_loadOw 1 Tryz.isAgg35 Tryz.sizeOf35 rfl rfl rfl rfl rfl) ?_
  refine w_ (p_lit Tryz.runUnderlying25 Tryz.sizeOf35 Tryz.zeroValue35 rfl rfl rfl rfl rfl rfl rfl rfl rfl rfl) ?_
  refine a_append (ls2 := (((l.take i).foldl waysF []) ++ [p]).map ofPt) (m2 := nw + 1) 0 Tryz.runUnderlying25 Tryz.runUnderlying25 Tryz.typeInfo35 rfl rfl Tryz.sizeOf35 Tryz.zeroValue35 rfl rfl rfl rfl rfl rfl rfl (by rw [List.length_map]; omega) (one_w rfl) (one_f rfl) (by show _ + 1 < _; omega) (by rw [List.take_of_length_le (by rw [List.length_map]; omega), List.map_append]; rfl) (rfl) fun r4 => ?_
  refine w_ (p_assign rfl rfl) ?_
  refine aw_nil ?_
  refine ac_reg ?_
  refine w_ (p_add (r := ((i + 1 : Nat) : Int)) rfl rfl (i64_is (by omega) (by omega)) rfl) ?_
  refine w_ (p_move rfl rfl) ?_
  refine aw_rowEq (ls' := ((l.take (i + 1)).foldl waysF []).map ofPt) 0 rfl (by rw [hst]) ?_
  refine aw_pick [3, 10, 11, 12] rfl ?_
  refine aw_drop 1 rfl ?_
  refine aw_nil ?_
  refine ⟨_, ?_, i + 1, _, _, by omega, hml, rfl, rfl, rfl⟩
  omega
 have hi : l.take i = l := List.take_of_length_le (by omega)
 refine ac_seq (ac_reg ?_)
 refine w_ (p_cmp rfl rfl rfl rfl) ?_
 refine aw_nil ?_
 refine ac_seq ?_
 refine ac_f rfl (decide_eq_false (by omega)) ?_
 refine ac_exit ?_
 repeat refine seqQ_exit ?_
 refine blkQ_here ?_
 refine ac_seq (ac_reg ?_)
 refine w_ (p_move rfl rfl) ?_
 refine w_ (p_assign rfl rfl) ?_
 refine aw_nil ?_
 have hl47 := hwl
 refine ac_pub 0 [2] rfl (allAre1 rfl) (by rw [List.length_map]; exact hp1) (by rw [List.length_map]; have := hl47; omega) rfl ?_
 refine ac_ret ?_
 exact retB_1 Tryz.results27 (rv_tmp rfl rfl) (by rw [hi]; rfl)
end Orr

namespace Orr
open Go Go.Proofs
theorem trim_qa (q : Rat) : Trim [-q.num, (q.den : Int)] := by
 unfold Trim
 simp [trim, q.den_nz]
theorem bd_qa {q : Rat} {s : Nat} (h : Qs s q) : Bd s [-q.num, (q.den : Int)] := by
 intro z hz
 simp only [List.mem_cons, List.not_mem_nil, or_false] at hz
 rcases hz with rfl | rfl
 ·rw [isz_neg]; exact h.1
 exact h.2
set_option maxRecDepth 20000 in
theorem d_alg_Of {b1 b2 : Bool} {l1 l2 : List Nat} {n d : Int} (h1 : IsInt (.bool b1) (u32r l1) n) (h2 : IsInt (.bool b2) (u32r l2) d) (hn : isz n ≤ 4294967295) (hd : isz d ≤ 4294967295) (hq : Qs 4294967295 (ratOf n d)) : Does Tryz.prog 14 [.agg [.bool b1, u32r l1, .bool b2, u32r l2]] (.agg [pl ([-((ratOf n d)).num, (((ratOf n d)).den : Int)]), sg ((((ratOf n d))).num), mg ((((ratOf n d))).num), sg (((((ratOf n d))).den : Int)), mg (((((ratOf n d))).den : Int)), sg ((((ratOf n d))).num), mg ((((ratOf n d))).num), sg (((((ratOf n d))).den : Int)), mg (((((ratOf n d))).den : Int))]) := by
 refine does_ (n := 15) Tryz.func14 rfl Tryz.ntmps14 rfl ?_
 refine ac_seq (ac_reg ?_)
 refine a_box rfl rfl rfl fun g1 => ?_
 refine a_alloc Tryz.zeroValue44 rfl rfl fun g2 => ?_
 refine aw_nil ?_
 refine ac_seq (ac_reg ?_)
 refine w_ (p_loadOw 1 Tryz.isAgg41 Tryz.sizeOf41 rfl rfl rfl rfl rfl) ?_
 refine w_ (p_call Tryz.func23 rfl rfl rfl rfl (d_ratio_Max h1 h2 hn hd) rfl) ?_
 refine a_storeOw 1 Tryz.sizeOf41 rfl rfl rfl rfl rfl rfl rfl ?_
 refine aw_nil ?_
 refine ac_seq ?_
 refine ac_draw mixed_ 9 [5, 6, 7, 8, 9, 10, 11, 12, 13] [[], [0], [1], [], [3], [2, 4], [], [], [7]] [.one (.ow g1 0), .agg [sg (((ratOf n d)).num), mg (((ratOf n d)).num)], .agg [sg (-(((ratOf n d)).num)), mg (-(((ratOf n d)).num))], .one (.ow g1 2), .agg [sg ((((ratOf n d)).den : Int)), mg ((((ratOf n d)).den : Int))], .one (.row [[sg (-(((ratOf n d)).num)), mg (-(((ratOf n d)).num))], [sg ((((ratOf n d)).den : Int)), mg ((((ratOf n d)).den : Int))]]), .agg [sg (((ratOf n d)).num), mg (((ratOf n d)).num), sg ((((ratOf n d)).den : Int)), mg ((((ratOf n d)).den : Int))], .agg [sg (((ratOf n d)).num), mg (((ratOf n d)).num), sg ((((ratOf n d)).den : Int)), mg ((((ratOf n d)).den : Int))], .agg [sg (((ratOf n d)).num), mg (((ratOf n d)).num), sg ((((ratOf n d)).den : Int)), mg ((((ratOf n d)).den : Int))]] rfl rfl rfl ⟨p_fieldOw fa_41_0 rfl rfl, p_loadOw 1 Tryz.isAgg30 Tryz.sizeOf30 rfl rfl rfl rfl rfl, p_call Tryz.func24 rfl rfl rfl rfl (d_whole_Neg (isInt_n _) (hq.1)) rfl, p_fieldOw fa_41_1 rfl rfl, p_loadOw 1 Tryz.isAgg30 Tryz.sizeOf30 rfl rfl rfl rfl rfl, p_lit Tryz.runUnderlying27 Tryz.sizeOf30 Tryz.zeroValue30 rfl rfl rfl rfl rfl rfl rfl rfl rfl rfl, p_loadOw 1 Tryz.isAgg41 Tryz.sizeOf41 rfl rfl rfl rfl rfl, p_loadOw 1 Tryz.isAgg41 Tryz.sizeOf41 rfl rfl rfl rfl rfl, p_call Tryz.func23 rfl rfl rfl rfl (d_ratio_Max1 hq) rfl, trivial⟩ rfl ?_
 refine w_ (p_build (bd_44) rfl rfl rfl rfl) ?_
 refine a_storeOw 0 Tryz.sizeOf44 rfl rfl rfl rfl rfl rfl rfl ?_
 refine aw_nil ?_
 refine ac_ret ?_
 exact retB_1 Tryz.results14 (rv_cell 0 Tryz.isAgg44 Tryz.sizeOf44 rfl rfl rfl rfl rfl) (rfl)
set_option maxRecDepth 20000 in
theorem d_alg_normQ {q : Rat} (hq : Qs 4294967295 q) : Does Tryz.prog 47 [.agg [pl ([-q.num, (q.den : Int)]), sg q.num, mg q.num, sg ((q.den : Int)), mg ((q.den : Int)), sg q.num, mg q.num, sg ((q.den : Int)), mg ((q.den : Int))]] (.agg [pl ([-q.num, (q.den : Int)]), sg q.num, mg q.num, sg ((q.den : Int)), mg ((q.den : Int)), sg q.num, mg q.num, sg ((q.den : Int)), mg ((q.den : Int))]) := by
 refine does_ (n := 13) Tryz.func47 rfl Tryz.ntmps47 rfl ?_
 refine ac_seq (ac_reg ?_)
 refine w_ (p_boxS rfl rfl rfl rfl) ?_
 refine a_alloc Tryz.zeroValue44 rfl rfl fun g1 => ?_
 refine aw_nil ?_
 refine ac_seq ?_
 refine ac_draw mixed_ 8 [3, 4, 5, 6, 7, 8, 9, 10] [[], [0], [1], [], [3], [4], [], [6]] [.one (.sh [pl ([-q.num, (q.den : Int)]), sg q.num, mg q.num, sg ((q.den : Int)), mg ((q.den : Int)), sg q.num, mg q.num, sg ((q.den : Int)), mg ((q.den : Int))]), .one (pl ([-q.num, (q.den : Int)])), .one (pl ([-q.num, (q.den : Int)])), .one (.sh [sg q.num, mg q.num, sg ((q.den : Int)), mg ((q.den : Int)), sg q.num, mg q.num, sg ((q.den : Int)), mg ((q.den : Int))]), .agg [sg q.num, mg q.num, sg ((q.den : Int)), mg ((q.den : Int))], .agg [sg q.num, mg q.num, sg ((q.den : Int)), mg ((q.den : Int))], .one (.sh [sg q.num, mg q.num, sg ((q.den : Int)), mg ((q.den : Int))]), .agg [sg q.num, mg q.num, sg ((q.den : Int)), mg ((q.den : Int))]] rfl rfl rfl ⟨p_fieldSh fa_44_0 rfl rfl rfl, p_loadSh Tryz.isAgg27 Tryz.sizeOf27 rfl rfl rfl rfl, p_call Tryz.func33 rfl rfl rfl rfl (d_poly_NormT (trim_qa q) (show 2 < 274877906944 by decide) (bd_qa hq)) rfl, p_fieldSh fa_44_1 rfl rfl rfl, p_loadSh Tryz.isAgg41 Tryz.sizeOf41 rfl rfl rfl rfl, p_call Tryz.func23 rfl rfl rfl rfl (d_ratio_Max1 (hq)) rfl, p_fieldSh fa_44_2 rfl rfl rfl, p_loadSh Tryz.isAgg41 Tryz.sizeOf41 rfl rfl rfl rfl, trivial⟩ rfl ?_
 refine w_ (p_call Tryz.func23 rfl rfl rfl rfl (d_ratio_Max1 (hq)) rfl) ?_
 refine w_ (p_build (bd_44) rfl rfl rfl rfl) ?_
 refine a_storeOw 0 Tryz.sizeOf44 rfl rfl rfl rfl rfl rfl rfl ?_
 refine aw_nil ?_
 refine ac_ret ?_
 exact retB_1 Tryz.results47 (rv_cell 0 Tryz.isAgg44 Tryz.sizeOf44 rfl rfl rfl rfl rfl) (rfl)
theorem d_alg_freshQ {q : Rat} (hq : Qs 4294967295 q) : Does Tryz.prog 32 [.agg [pl ([-q.num, (q.den : Int)]), sg q.num, mg q.num, sg ((q.den : Int)), mg ((q.den : Int)), sg q.num, mg q.num, sg ((q.den : Int)), mg ((q.den : Int))]] (.agg [pl ([-q.num, (q.den : Int)]), sg q.num, mg q.num, sg ((q.den : Int)), mg ((q.den : Int)), sg q.num, mg q.num, sg ((q.den : Int)), mg ((q.den : Int))]) := by
 refine does_ (n := 5) Tryz.func32 rfl Tryz.ntmps32 rfl ?_
 refine ac_seq (ac_reg ?_)
 refine w_ (p_boxS rfl rfl rfl rfl) ?_
 refine a_alloc Tryz.zeroValue44 rfl rfl fun g1 => ?_
 refine aw_nil ?_
 refine ac_seq (ac_reg ?_)
 refine w_ (p_loadSh Tryz.isAgg44 Tryz.sizeOf44 rfl rfl rfl rfl) ?_
 refine w_ (p_call Tryz.func47 rfl rfl rfl rfl (d_alg_normQ (hq)) rfl) ?_
 refine a_storeOw 0 Tryz.sizeOf44 rfl rfl rfl rfl rfl rfl rfl ?_
 refine aw_nil ?_
 refine ac_ret ?_
 exact retB_1 Tryz.results32 (rv_cell 0 Tryz.isAgg44 Tryz.sizeOf44 rfl rfl rfl rfl rfl) (rfl)
theorem d_alg_pointQ {q : Rat} (hq : Qs 2147483647 q) : Does Tryz.prog 48 [.agg [pl ([-q.num, (q.den : Int)]), sg q.num, mg q.num, sg ((q.den : Int)), mg ((q.den : Int)), sg q.num, mg q.num, sg ((q.den : Int)), mg ((q.den : Int))]] (.one (.bool true)) := by
 refine does_ (n := 9) Tryz.func48 rfl Tryz.ntmps48 rfl ?_
 refine ac_seq (ac_reg ?_)
 refine w_ (p_boxS rfl rfl rfl rfl) ?_
 refine w_ (p_assign rfl rfl) ?_
 refine aw_nil ?_
 refine ac_seq (ac_reg ?_)
 refine w_ (p_fieldSh fa_44_1 rfl rfl rfl) ?_
 refine w_ (p_loadSh Tryz.isAgg41 Tryz.sizeOf41 rfl rfl rfl rfl) ?_
 refine w_ (p_fieldSh fa_44_2 rfl rfl rfl) ?_
 refine w_ (p_loadSh Tryz.isAgg41 Tryz.sizeOf41 rfl rfl rfl rfl) ?_
 refine w_ (p_call Tryz.func44 rfl rfl rfl rfl (d_ratio_Cmp (hq) (hq)) rfl) ?_
 refine w_ (p_cmp rfl rfl rfl rfl) ?_
 refine w_ (p_assign rfl rfl) ?_
 refine aw_nil ?_
 refine ac_ret ?_
 exact retB_1 Tryz.results48 (rv_tmp rfl rfl) (by rw [cmpQ_self]; rfl)
theorem d_alg_SignQ {p : List Int} {q : Rat} (tp : Trim p) (hl : p.length ≤ 64) (hp : Bd 16780000 p) (hq : Qb q) : Does Tryz.prog 93 [.one (pl p), .agg [pl ([-q.num, (q.den : Int)]), sg q.num, mg q.num, sg ((q.den : Int)), mg ((q.den : Int)), sg q.num, mg q.num, sg ((q.den : Int)), mg ((q.den : Int))]] (.one (.int .i64 (psign p q))) := by
 refine does_ (n := 66) Tryz.func93 rfl Tryz.ntmps93 rfl ?_
 have hmm : p.length * (16777216 + 1) ≤ 64 * (16777216 + 1) := Nat.mul_le_mul_right _ hl
 rcases Nat.eq_zero_or_pos p.length with h0 | h0
 ·skip
  refine ac_seq (ac_reg ?_)
  refine a_box rfl rfl rfl fun g1 => ?_
  refine w_ (p_assign rfl rfl) ?_
  refine aw_nil ?_
  refine ac_seq ?_
  refine ac_draw mixed_ 3 [8, 9, 10] [[], [0], []] [.one (pl p), .one (pl p), .agg [pl ([-q.num, (q.den : Int)]), sg q.num, mg q.num, sg ((q.den : Int)), mg ((q.den : Int)), sg q.num, mg q.num, sg ((q.den : Int)), mg ((q.den : Int))]] rfl rfl rfl ⟨p_move rfl rfl, p_call Tryz.func33 rfl rfl rfl rfl (d_poly_NormT (tp) (by omega) (bd_mono hp (by omega))) rfl, p_loadOw 0 Tryz.isAgg44 Tryz.sizeOf44 rfl rfl rfl rfl rfl, trivial⟩ rfl ?_
  refine w_ (p_call Tryz.func47 rfl rfl rfl rfl (d_alg_normQ (hq.mono (by omega))) rfl) ?_
  refine w_ (p_assign rfl rfl) ?_
  refine a_storeOw 0 Tryz.sizeOf44 rfl rfl rfl rfl rfl rfl rfl ?_
  refine aw_nil ?_
  refine ac_seq (ac_seq (ac_reg ?_))
  refine w_ (p_move rfl rfl) ?_
  refine w_ (p_len (m := p.length) Tryz.runUnderlying27 rfl (rlen_pl _) rfl) ?_
  refine w_ (p_cmp rfl rfl rfl rfl) ?_
  refine aw_nil ?_
  refine ac_t rfl (decide_eq_true (by omega)) ?_
  refine ac_seq (ac_reg ?_)
  refine w_ (p_assign rfl rfl) ?_
  refine aw_nil ?_
  refine ac_ret ?_
  exact retB_1 Tryz.results93 (rv_tmp rfl rfl) (by rw [List.eq_nil_of_length_eq_zero h0]; rfl)
 skip
 refine ac_seq (ac_reg ?_)
 refine a_box rfl rfl rfl fun g2 => ?_
 refine w_ (p_assign rfl rfl) ?_
 refine aw_nil ?_
 refine ac_seq ?_
 refine ac_draw mixed_ 3 [8, 9, 10] [[], [0], []] [.one (pl p), .one (pl p), .agg [pl ([-q.num, (q.den : Int)]), sg q.num, mg q.num, sg ((q.den : Int)), mg ((q.den : Int)), sg q.num, mg q.num, sg ((q.den : Int)), mg ((q.den : Int))]] rfl rfl rfl ⟨p_move rfl rfl, p_call Tryz.func33 rfl rfl rfl rfl (d_poly_NormT (tp) (by omega) (bd_mono hp (by omega))) rfl, p_loadOw 0 Tryz.isAgg44 Tryz.sizeOf44 rfl rfl rfl rfl rfl, trivial⟩ rfl ?_
 refine w_ (p_call Tryz.func47 rfl rfl rfl rfl (d_alg_normQ (hq.mono (by omega))) rfl) ?_
 refine w_ (p_assign rfl rfl) ?_
 refine a_storeOw 0 Tryz.sizeOf44 rfl rfl rfl rfl rfl rfl rfl ?_
 refine aw_nil ?_
 refine ac_seq (ac_seq (ac_reg ?_))
 refine w_ (p_move rfl rfl) ?_
 refine w_ (p_len (m := p.length) Tryz.runUnderlying27 rfl (rlen_pl _) rfl) ?_
 refine w_ (p_cmp rfl rfl rfl rfl) ?_
 refine aw_nil ?_
 refine ac_f rfl (decide_eq_false (by omega)) ?_
 refine ac_skip ?_
 refine ac_seq (ac_seq (ac_reg ?_))
 refine w_ (p_loadOw 0 Tryz.isAgg44 Tryz.sizeOf44 rfl rfl rfl rfl rfl) ?_
 refine w_ (p_call Tryz.func48 rfl rfl rfl rfl (d_alg_pointQ (hq.mono (by omega))) rfl) ?_
 refine aw_nil ?_
 refine ac_t rfl (rfl) ?_
 refine ac_seq (ac_reg ?_)
 refine w_ (p_move rfl rfl) ?_
 refine w_ (p_fieldOw fa_44_1 rfl rfl) ?_
 refine w_ (p_loadOw 0 Tryz.isAgg41 Tryz.sizeOf41 rfl rfl rfl rfl rfl) ?_
 refine w_ (p_call Tryz.func74 rfl rfl rfl rfl (d_poly_Sign (tp) (by omega) (hp) (hq) (by omega)) rfl) ?_
 refine w_ (p_assign rfl rfl) ?_
 refine aw_nil ?_
 refine ac_ret ?_
 exact retB_1 Tryz.results93 (rv_tmp rfl rfl) (rfl)
theorem d_germ_At1 {p : List Int} {q : Rat} (tp : Trim p) (hl : p.length ≤ 64) (hp : Bd 16780000 p) (hq : Qb q) : Does Tryz.prog 92 [.one (pl p), .one (.sh [pl ([-q.num, (q.den : Int)]), sg q.num, mg q.num, sg ((q.den : Int)), mg ((q.den : Int)), sg q.num, mg q.num, sg ((q.den : Int)), mg ((q.den : Int))])] (.one (.int .i64 (psign p q))) := by
 refine does_ (n := 7) Tryz.func92 rfl Tryz.ntmps92 rfl ?_
 refine ac_seq (ac_reg ?_)
 refine w_ (p_assign rfl rfl) ?_
 refine aw_nil ?_
 refine ac_seq (ac_reg ?_)
 refine w_ (p_move rfl rfl) ?_
 refine w_ (p_loadSh Tryz.isAgg44 Tryz.sizeOf44 rfl rfl rfl rfl) ?_
 refine w_ (p_call Tryz.func93 rfl rfl rfl rfl (d_alg_SignQ (tp) (hl) (hp) (hq)) rfl) ?_
 refine w_ (p_assign rfl rfl) ?_
 refine aw_nil ?_
 refine ac_ret ?_
 exact retB_1 Tryz.results92 (rv_tmp rfl rfl) (rfl)
theorem d_germ_first {p : List Int} {fid : Nat} {pre post : List LV} {fn : Func} {sgn : List Int → Int} (hp : Pb p) (hfn : Tryz.prog.funcs[fid]? = some fn) (hnm : (fn.name == "runtime.NumGoroutine") = false) (hbd : fn.body.isNone = false)
  (hf : ∀ p : List Int, Trim p → p.length ≤ 64 → Bd 16780000 p → Does Tryz.prog fid (pre.map .one ++ [.one (pl p)] ++ post.map .one) (.one (.int .i64 (sgn p)))) : Does Tryz.prog 91 [.one (pl p), .one (.fn fid pre post)] (.one (.int .i64 (gfirst sgn p.length p))) := by
 refine does_ (n := 19) Tryz.func91 rfl Tryz.ntmps91 rfl ?_
 refine ac_seq (ac_reg ?_)
 refine w_ (p_assign rfl rfl) ?_
 refine aw_nil ?_
 refine ac_seq (ac_seq (ac_reg ?_))
 refine w_ (p_move rfl rfl) ?_
 refine w_ (p_call Tryz.func33 rfl rfl rfl rfl (d_poly_NormT (hp.t) (Nat.lt_of_le_of_lt hp.l (by decide)) (bd_mono hp.b (by omega))) rfl) ?_
 refine w_ (p_assign rfl rfl) ?_
 refine aw_nil ?_
 refine ac_block ?_
 refine ac_pick [0, 1] rfl ?_
 refine ac_loop (fun m L B => ∃ p' k, Trim p' ∧ p'.length + k ≤ 64 ∧ Bd (16777216 + 7 * k) p' ∧ gfirst sgn p'.length p' = gfirst sgn p.length p ∧ m = p'.length ∧ L = [(0, .one (pl p')), (1, .one (.fn fid pre post))] ∧ B = []) (m := _) ⟨p, 0, hp.t, hp.l, hp.b, rfl, rfl, rfl, rfl⟩ ?_
 rintro m L B ⟨p', k, hp0, hp1, hp2, hp3, hm, rfl, rfl⟩
 by_cases h0 : 0 < p'.length
 ·by_cases hs : sgn p' = 0
  ·skip
   refine ac_seq (ac_seq (ac_reg ?_))
   refine w_ (p_move rfl rfl) ?_
   refine w_ (p_len (m := p'.length) Tryz.runUnderlying27 rfl (rlen_pl _) rfl) ?_
   refine w_ (p_cmp rfl rfl rfl rfl) ?_
   refine aw_nil ?_
   refine ac_t rfl (decide_eq_true (by omega)) ?_
   refine ac_skip ?_
   refine ac_seq (ac_block (ac_seq (ac_reg ?_)))
   refine w_ (p_move rfl rfl) ?_
   refine w_ (p_move rfl rfl) ?_
   refine w_ (p_callFn rfl hfn hnm hbd rfl rfl (hf p' hp0 (by omega) (bd_mono hp2 (by omega))) rfl) ?_
   refine w_ (p_assign rfl rfl) ?_
   refine aw_nil ?_
   refine ac_seq (ac_reg ?_)
   refine w_ (p_move rfl rfl) ?_
   refine w_ (p_cmp rfl rfl rfl rfl) ?_
   refine aw_nil ?_
   refine ac_f rfl (decide_eq_false (fun h => h hs)) ?_
   refine ac_skip ?_
   refine ac_reg ?_
   refine w_ (p_move rfl rfl) ?_
   refine w_ (p_call Tryz.func107 rfl rfl rfl rfl (d_poly_Derive (by omega) (bd_mono hp2 (by omega))) rfl) ?_
   refine w_ (p_assign rfl rfl) ?_
   refine aw_pick [0, 1] rfl ?_
   refine aw_nil ?_
   refine ⟨_, ?_, pder p', k + 1, each_trim _ _, by have := len_pder p'; omega, bd_mono (bd_pder (t := 7) hp2 (by show p'.length ≤ 128; omega)) (by omega), by rw [← hp3, gfirst_next sgn h0 hs], rfl, rfl, rfl⟩
   have := len_pder p'; omega
  skip
  refine ac_seq (ac_seq (ac_reg ?_))
  refine w_ (p_move rfl rfl) ?_
  refine w_ (p_len (m := p'.length) Tryz.runUnderlying27 rfl (rlen_pl _) rfl) ?_
  refine w_ (p_cmp rfl rfl rfl rfl) ?_
  refine aw_nil ?_
  refine ac_t rfl (decide_eq_true (by omega)) ?_
  refine ac_skip ?_
  refine ac_seq (ac_block (ac_seq (ac_reg ?_)))
  refine w_ (p_move rfl rfl) ?_
  refine w_ (p_move rfl rfl) ?_
  refine w_ (p_callFn rfl hfn hnm hbd rfl rfl (hf p' hp0 (by omega) (bd_mono hp2 (by omega))) rfl) ?_
  refine w_ (p_assign rfl rfl) ?_
  refine aw_nil ?_
  refine ac_seq (ac_reg ?_)
  refine w_ (p_move rfl rfl) ?_
  refine w_ (p_cmp rfl rfl rfl rfl) ?_
  refine aw_nil ?_
  refine ac_t rfl (decide_eq_true hs) ?_
  refine ac_seq (ac_reg ?_)
  refine w_ (p_move rfl rfl) ?_
  refine w_ (p_assign rfl rfl) ?_
  refine aw_nil ?_
  refine ac_ret ?_
  exact retB_1 Tryz.results91 (rv_tmp rfl rfl) (by rw [← hp3, gfirst_here sgn h0 hs])
 skip
 refine ac_seq (ac_seq (ac_reg ?_))
 refine w_ (p_move rfl rfl) ?_
 refine w_ (p_len (m := p'.length) Tryz.runUnderlying27 rfl (rlen_pl _) rfl) ?_
 refine w_ (p_cmp rfl rfl rfl rfl) ?_
 refine aw_nil ?_
 refine ac_f rfl (decide_eq_false (by omega)) ?_
 refine ac_exit ?_
 repeat refine seqQ_exit ?_
 refine blkQ_here ?_
 refine ac_seq (ac_reg ?_)
 refine w_ (p_assign rfl rfl) ?_
 refine aw_nil ?_
 refine ac_ret ?_
 exact retB_1 Tryz.results91 (rv_tmp rfl rfl) (by rw [← hp3, gfirst_zero sgn (by omega)])
theorem d_germ_AtQ {p : List Int} {q : Rat} (hp : Pb p) (hq : Qb q) : Does Tryz.prog 62 [.one (pl p), .agg [pl ([-q.num, (q.den : Int)]), sg q.num, mg q.num, sg ((q.den : Int)), mg ((q.den : Int)), sg q.num, mg q.num, sg ((q.den : Int)), mg ((q.den : Int))]] (.one (.int .i64 (germAt p q))) := by
 refine does_ (n := 8) Tryz.func62 rfl Tryz.ntmps62 rfl ?_
 refine ac_seq (ac_reg ?_)
 refine w_ (p_boxS rfl rfl rfl rfl) ?_
 refine w_ (p_assign rfl rfl) ?_
 refine aw_nil ?_
 refine ac_seq (ac_reg ?_)
 refine w_ (p_move rfl rfl) ?_
 refine w_ (p_makeFunc rfl rfl rfl rfl rfl rfl rfl) ?_
 refine w_ (p_call Tryz.func91 rfl rfl rfl rfl (d_germ_first (sgn := fun p => psign p q) hp Tryz.func92 rfl rfl (fun p h1 h2 h3 => d_germ_At1 h1 h2 h3 hq)) rfl) ?_
 refine w_ (p_assign rfl rfl) ?_
 refine aw_nil ?_
 refine ac_ret ?_
 exact retB_1 Tryz.results62 (rv_tmp rfl rfl) (rfl)
theorem d_pred_norm {k : Crv} (hn : Nml k) (hk : Cs 4294967294 1073741824 k) : Does Tryz.prog 80 [.agg [pl k.x, pl k.y, sg k.d, mg k.d]] (.agg [pl k.x, pl k.y, sg k.d, mg k.d]) := by
 refine does_ (n := 22) Tryz.func80 rfl Tryz.ntmps80 rfl ?_
 have h0 : ¬ (k.d = 0) := by have := hn.2.2.1; omega
 skip
 refine ac_seq (ac_reg ?_)
 refine w_ (p_boxS rfl rfl rfl rfl) ?_
 refine a_alloc Tryz.zeroValue32 rfl rfl fun g1 => ?_
 refine aw_nil ?_
 refine ac_seq (ac_reg ?_)
 refine w_ (p_fieldSh fa_32_2 rfl rfl rfl) ?_
 refine w_ (p_loadSh Tryz.isAgg30 Tryz.sizeOf30 rfl rfl rfl rfl) ?_
 refine a_alloc Tryz.zeroValue30 rfl rfl fun g2 => ?_
 refine a_storeOw 0 Tryz.sizeOf30 rfl rfl rfl rfl rfl rfl rfl ?_
 refine aw_nil ?_
 refine ac_seq (ac_seq (ac_reg ?_))
 refine w_ (p_loadOw 0 Tryz.isAgg30 Tryz.sizeOf30 rfl rfl rfl rfl rfl) ?_
 refine w_ (p_call Tryz.func34 rfl rfl rfl rfl (d_whole_Norm (isInt_n _) (Nat.le_trans hk.d (by omega))) rfl) ?_
 refine w_ (p_call Tryz.func35 rfl rfl rfl rfl ((d_ZeroN _) ) rfl) ?_
 refine aw_nil ?_
 refine ac_f rfl (decide_eq_false h0) ?_
 refine ac_skip ?_
 refine ac_seq (ac_reg ?_)
 refine w_ (p_fieldSh fa_32_0 rfl rfl rfl) ?_
 refine w_ (p_loadSh Tryz.isAgg27 Tryz.sizeOf27 rfl rfl rfl rfl) ?_
 refine w_ (p_fieldSh fa_32_1 rfl rfl rfl) ?_
 refine w_ (p_loadSh Tryz.isAgg27 Tryz.sizeOf27 rfl rfl rfl rfl) ?_
 refine w_ (p_loadOw 0 Tryz.isAgg30 Tryz.sizeOf30 rfl rfl rfl rfl rfl) ?_
 refine w_ (p_call Tryz.func68 rfl rfl rfl rfl (d_curve_Make (isInts_n k.x) (isInts_n k.y) (isInt_n k.d) hk h0) rfl) ?_
 refine w_ (p_move rfl rfl) ?_
 refine w_ (p_extract rfl rfl rfl) ?_
 refine w_ (p_extract rfl rfl rfl) ?_
 refine a_alloc Tryz.zeroValue32 rfl rfl fun g3 => ?_
 refine a_storeOw 0 Tryz.sizeOf32 rfl rfl rfl rfl rfl rfl rfl ?_
 refine w_ (p_assign rfl rfl) ?_
 refine aw_nil ?_
 refine ac_seq (ac_reg ?_)
 refine w_ (p_loadOw 0 Tryz.isAgg32 Tryz.sizeOf32 rfl rfl rfl rfl rfl) ?_
 refine a_storeOw 2 Tryz.sizeOf32 rfl rfl rfl rfl rfl rfl rfl ?_
 refine aw_nil ?_
 refine ac_ret ?_
 exact retB_1 Tryz.results80 (rv_cell 2 Tryz.isAgg32 Tryz.sizeOf32 rfl rfl rfl rfl rfl) (by rw [show Crv.mk k.x k.y k.d = k from rfl, Crv.norm_of hn])
end Orr
