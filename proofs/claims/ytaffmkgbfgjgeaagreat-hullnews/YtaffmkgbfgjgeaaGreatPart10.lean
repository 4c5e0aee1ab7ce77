/- Package hull, told in data. The law HullNews, told in data. What an argument reads as, told in plain data, where it is not looked into. -/
import Derived.Test.YtaffmkgbfgjgeaaGreatPart09
import Derived.Test.YtaffmkgbfgjgeaaGreatPart08
import Derived.Deep.Slices
set_option linter.all false

namespace Orr
open Go Go.Proofs
set_option maxRecDepth 20000 in
theorem d_hull_chain {row : List Pt} {q : Rat} (hq : Qb q) (hg : GoodP row) (hn : row.length ≤ 1000000) : Does Tryz.prog 277 [.agg [pl ([-q.num, (q.den : Int)]), sg q.num, mg q.num, sg ((q.den : Int)), mg ((q.den : Int)), sg q.num, mg q.num, sg ((q.den : Int)), mg ((q.den : Int))], .one (pts row)] (.one (pts ((chain q row)))) := by
  refine does_ (n := 50) Tryz.func277 rfl Tryz.ntmps277 rfl ?_
  refine ac_seq ?_
  refine ac_reg ?_
  refine w_ (p_boxS rfl rfl rfl rfl) ?_
  refine w_ (p_assign rfl rfl) ?_
  refine aw_nil ?_
  refine ac_seq ?_
  refine ac_reg ?_
  refine w_ (p_assign rfl rfl) ?_
  refine aw_nil ?_
  refine ac_seq ?_
  refine ac_seq ?_
  refine ac_reg ?_
  refine w_ (p_move rfl rfl) ?_
  refine w_ (p_len (m := row.length) Tryz.runUnderlying22 rfl (rlen_pts _) rfl) ?_
  refine w_ (p_move rfl rfl) ?_
  refine aw_nil ?_
  refine ac_block ?_
  refine ac_ownNil [5] 76 5 rfl (allAre1 rfl) rfl ?_
  refine ac_pick [2, 5, 8, 9, 10] rfl ?_
  refine ac_loop (fun m L B => ∃ i r, i ≤ row.length ∧ m = row.length - i ∧ L = [(2, .one (.sh [pl ([-q.num, (q.den : Int)]), sg q.num, mg q.num, sg ((q.den : Int)), mg ((q.den : Int)), sg q.num, mg q.num, sg ((q.den : Int)), mg ((q.den : Int))])), (5, .one (.orow r 5 0 ((chain q (row.take i)).length))), (8, .one (pts row)), (9, .one (.int .i64 (((row.length : Nat) : Int)))), (10, .one (.int .i64 (((i : Nat) : Int))))] ∧ B = [.row r 76 5 ((chain q (row.take i)).map ofPt)]) (m := _) ⟨0, none, Nat.zero_le _, rfl, rfl, rfl⟩ ?_
  rintro m L B ⟨i, r, hp0, hm, rfl, rfl⟩
  have hcl := chain_len q (row.take i)
  rw [List.length_take] at hcl
  by_cases hlt : i < row.length
  · obtain ⟨c, hc⟩ : ∃ c, row[i]? = some c := ⟨_, List.getElem?_eq_getElem hlt⟩
    have hcg := hg c (List.mem_of_getElem? hc)
    refine ac_seq ?_
    refine ac_reg ?_
    refine w_ (p_cmp rfl rfl rfl rfl) ?_
    refine aw_nil ?_
    refine ac_seq ?_
    refine ac_t rfl (decide_eq_true (by omega)) ?_
    refine ac_skip ?_
    refine ac_seq ?_
    refine ac_block ?_
    refine ac_seq ?_
    refine ac_reg ?_
    refine w_ (p_index (i) Tryz.runUnderlying22 Tryz.sizeOf76 rfl rfl (rfl) (map_get hc) rfl rfl) ?_
    refine w_ (p_loadSh Tryz.isAgg76 Tryz.sizeOf76 rfl rfl rfl rfl) ?_
    refine a_alloc Tryz.zeroValue76 rfl rfl fun g1 => ?_
    refine a_storeOw 0 Tryz.sizeOf76 rfl rfl rfl rfl rfl rfl rfl ?_
    refine aw_nil ?_
    refine ac_cut (fun L B => ∃ k, k ≤ (chain q (row.take i)).length ∧ popK q (chain q (row.take i)) c (chain q (row.take i)).length = k ∧ L = [(2, .one (.sh [pl ([-q.num, (q.den : Int)]), sg q.num, mg q.num, sg ((q.den : Int)), mg ((q.den : Int)), sg q.num, mg q.num, sg ((q.den : Int)), mg ((q.den : Int))])), (7, .one (.ow g1 0)), (8, .one (pts row)), (9, .one (.int .i64 (((row.length : Nat) : Int)))), (10, .one (.int .i64 (((i : Nat) : Int)))), (5, .one (.orow r 5 0 k))] ∧ B = [.blk g1 76 [pl c.c.x, pl c.c.y, sg c.c.d, mg c.c.d, .int .i64 c.id], .row r 76 5 ((chain q (row.take i)).map ofPt)]) ?_ ?_
    · skip
      refine ac_block ?_
      refine ac_pick [2, 7, 8, 9, 10, 5] rfl ?_
      refine ac_loop (fun m L B => ∃ k, k ≤ (chain q (row.take i)).length ∧ popK q (chain q (row.take i)) c k = popK q (chain q (row.take i)) c (chain q (row.take i)).length ∧ m = k ∧ L = [(2, .one (.sh [pl ([-q.num, (q.den : Int)]), sg q.num, mg q.num, sg ((q.den : Int)), mg ((q.den : Int)), sg q.num, mg q.num, sg ((q.den : Int)), mg ((q.den : Int))])), (7, .one (.ow g1 0)), (8, .one (pts row)), (9, .one (.int .i64 (((row.length : Nat) : Int)))), (10, .one (.int .i64 (((i : Nat) : Int)))), (5, .one (.orow r 5 0 k))] ∧ B = [.blk g1 76 [pl c.c.x, pl c.c.y, sg c.c.d, mg c.c.d, .int .i64 c.id], .row r 76 5 ((chain q (row.take i)).map ofPt)]) (m := _) ⟨(chain q (row.take i)).length, Nat.le_refl _, rfl, rfl, rfl, rfl⟩ ?_
      rintro m L B ⟨k, hq0, hq1, hm, rfl, rfl⟩
      by_cases h2 : k < 2
      · have hpop : popK q (chain q (row.take i)) c (chain q (row.take i)).length = k := by rw [← hq1, popK_few h2]
        refine ac_seq ?_
        refine ac_seq ?_
        refine ac_draw mixed_ 22 [14, 15, 16, 17, 18, 19, 20, 21, 22, 23, 24, 25, 26, 27, 28, 29, 30, 31, 32, 33, 34, 35] [[], [0], [1], [2], [3], [3], [3, 5], [3, 6], [3, 4, 7], [3, 8], [3, 9], [3], [3], [3, 12], [3, 13], [3, 11, 14], [3, 15], [3, 16], [3], [3, 18], [3, 10, 17, 19], [3]] [.one (.orow r 5 0 k), .one (.int .i64 (((k : Nat) : Int))), .one (.bool ((decide (1 < (((k : Nat) : Int)))))), .one (.bool ((decide (1 < (((k : Nat) : Int)))))), .un, .un, .un, .un, .un, .un, .un, .un, .un, .un, .un, .un, .un, .un, .un, .un, .un, .un] rfl rfl rfl ⟨p_move rfl rfl, p_len (m := k) Tryz.runUnderlying22 rfl (rfl) rfl, p_cmp rfl rfl rfl rfl, p_move rfl rfl, p_gskip rfl rfl (decide_eq_false (by omega)) rfl, p_gskip rfl rfl (decide_eq_false (by omega)) rfl, p_gskip rfl rfl (decide_eq_false (by omega)) rfl, p_gskip rfl rfl (decide_eq_false (by omega)) rfl, p_gskip rfl rfl (decide_eq_false (by omega)) rfl, p_gskip rfl rfl (decide_eq_false (by omega)) rfl, p_gskip rfl rfl (decide_eq_false (by omega)) rfl, p_gskip rfl rfl (decide_eq_false (by omega)) rfl, p_gskip rfl rfl (decide_eq_false (by omega)) rfl, p_gskip rfl rfl (decide_eq_false (by omega)) rfl, p_gskip rfl rfl (decide_eq_false (by omega)) rfl, p_gskip rfl rfl (decide_eq_false (by omega)) rfl, p_gskip rfl rfl (decide_eq_false (by omega)) rfl, p_gskip rfl rfl (decide_eq_false (by omega)) rfl, p_gskip rfl rfl (decide_eq_false (by omega)) rfl, p_gskip rfl rfl (decide_eq_false (by omega)) rfl, p_gskip rfl rfl (decide_eq_false (by omega)) rfl, p_gskip rfl rfl (decide_eq_false (by omega)) rfl, trivial⟩ rfl ?_
        refine w_ (p_gskip rfl rfl (decide_eq_false (by omega)) rfl) ?_
        refine w_ (p_gskip rfl rfl (decide_eq_false (by omega)) rfl) ?_
        refine w_ (p_pickF rfl (decide_eq_false (by omega)) rfl rfl) ?_
        refine aw_nil ?_
        refine ac_f rfl (rfl) ?_
        refine ac_pick [2, 7, 8, 9, 10, 5] rfl ?_
        refine ac_exit ?_
        repeat refine seqQ_exit ?_
        refine blkQ_here ?_
        exact ⟨k, hq0, hpop, rfl, rfl⟩
      · obtain ⟨a, ha⟩ : ∃ a, (chain q (row.take i))[k - 2]? = some a := ⟨_, List.getElem?_eq_getElem (by omega)⟩
        obtain ⟨b, hb⟩ : ∃ b, (chain q (row.take i))[k - 1]? = some b := ⟨_, List.getElem?_eq_getElem (by omega)⟩
        have hag := hg a (List.mem_of_mem_take (chain_mem (List.mem_of_getElem? ha)))
        have hbg := hg b (List.mem_of_mem_take (chain_mem (List.mem_of_getElem? hb)))
        by_cases hgm : germAt (porient a.c b.c c.c) q ≤ 0
        · skip
          refine ac_seq ?_
          refine ac_seq ?_
          refine ac_draw mixed_ 22 [14, 15, 16, 17, 18, 19, 20, 21, 22, 23, 24, 25, 26, 27, 28, 29, 30, 31, 32, 33, 34, 35] [[], [0], [1], [2], [3], [3], [3, 5], [3, 6], [3, 4, 7], [3, 8], [3, 9], [3], [3], [3, 12], [3, 13], [3, 11, 14], [3, 15], [3, 16], [3], [3, 18], [3, 10, 17, 19], [3]] [.one (.orow r 5 0 k), .one (.int .i64 (((k : Nat) : Int))), .one (.bool ((decide (1 < (((k : Nat) : Int)))))), .one (.bool ((decide (1 < (((k : Nat) : Int)))))), .one (.orow r 5 0 k), .one (.orow r 5 0 k), .one (.int .i64 (((k : Nat) : Int))), .one (.int .i64 (((k - 2 : Nat) : Int))), .one (.oel r 5 ((0 + ((k - 2)))) 0), .one (.oel r 5 ((0 + ((k - 2)))) 0), .agg [pl a.c.x, pl a.c.y, sg a.c.d, mg a.c.d], .one (.orow r 5 0 k), .one (.orow r 5 0 k), .one (.int .i64 (((k : Nat) : Int))), .one (.int .i64 (((k - 1 : Nat) : Int))), .one (.oel r 5 ((0 + ((k - 1)))) 0), .one (.oel r 5 ((0 + ((k - 1)))) 0), .agg [pl b.c.x, pl b.c.y, sg b.c.d, mg b.c.d], .one (.ow g1 0), .agg [pl c.c.x, pl c.c.y, sg c.c.d, mg c.c.d], .one (pl (porient a.c b.c c.c)), .agg [pl ([-q.num, (q.den : Int)]), sg q.num, mg q.num, sg ((q.den : Int)), mg ((q.den : Int)), sg q.num, mg q.num, sg ((q.den : Int)), mg ((q.den : Int))]] rfl rfl rfl ⟨p_move rfl rfl, p_len (m := k) Tryz.runUnderlying22 rfl (rfl) rfl, p_cmp rfl rfl rfl rfl, p_move rfl rfl, (p_grun rfl rfl (decide_eq_true (by omega)) (p_move rfl rfl)), (p_grun rfl rfl (decide_eq_true (by omega)) (p_move rfl rfl)), (p_grun rfl rfl (decide_eq_true (by omega)) (p_len (m := k) Tryz.runUnderlying22 rfl (rfl) rfl)), (p_grun rfl rfl (decide_eq_true (by omega)) (p_sub (r := ((k - 2 : Nat) : Int)) rfl rfl (i64_is (by omega) (by omega)) rfl)), (p_grun rfl rfl (decide_eq_true (by omega)) (p_indexO ((k - 2)) Tryz.runUnderlying22 Tryz.sizeOf76 rfl rfl (rfl) (by omega) rfl)), (p_grun rfl rfl (decide_eq_true (by omega)) (p_fieldO fa_76_0 rfl rfl)), (p_grun rfl rfl (decide_eq_true (by omega)) (p_loadO 1 Tryz.isAgg74 Tryz.sizeOf74 rfl rfl (by rw [Nat.zero_add]; exact map_get ha) rfl rfl rfl)), (p_grun rfl rfl (decide_eq_true (by omega)) (p_move rfl rfl)), (p_grun rfl rfl (decide_eq_true (by omega)) (p_move rfl rfl)), (p_grun rfl rfl (decide_eq_true (by omega)) (p_len (m := k) Tryz.runUnderlying22 rfl (rfl) rfl)), (p_grun rfl rfl (decide_eq_true (by omega)) (p_sub (r := ((k - 1 : Nat) : Int)) rfl rfl (i64_is (by omega) (by omega)) rfl)), (p_grun rfl rfl (decide_eq_true (by omega)) (p_indexO ((k - 1)) Tryz.runUnderlying22 Tryz.sizeOf76 rfl rfl (rfl) (by omega) rfl)), (p_grun rfl rfl (decide_eq_true (by omega)) (p_fieldO fa_76_0 rfl rfl)), (p_grun rfl rfl (decide_eq_true (by omega)) (p_loadO 1 Tryz.isAgg74 Tryz.sizeOf74 rfl rfl (by rw [Nat.zero_add]; exact map_get hb) rfl rfl rfl)), (p_grun rfl rfl (decide_eq_true (by omega)) (p_fieldOw fa_76_0 rfl rfl)), (p_grun rfl rfl (decide_eq_true (by omega)) (p_loadOw 0 Tryz.isAgg74 Tryz.sizeOf74 rfl rfl rfl rfl rfl)), (p_grun rfl rfl (decide_eq_true (by omega)) (p_call Tryz.func164 rfl rfl rfl rfl (d_pred_Orient (hag.1) (hbg.1) (hcg.1) (hag.2) (hbg.2) (hcg.2)) rfl)), (p_grun rfl rfl (decide_eq_true (by omega)) (p_loadSh Tryz.isAgg59 Tryz.sizeOf59 rfl rfl rfl rfl)), trivial⟩ rfl ?_
          refine w_ ((p_grun rfl rfl (decide_eq_true (by omega)) (p_call Tryz.func99 rfl rfl rfl rfl (d_germ_AtQ (pb_orient hag.1 hbg.1 hcg.1 hag.2 hbg.2 hcg.2) (hq)) rfl))) ?_
          refine w_ ((p_grun rfl rfl (decide_eq_true (by omega)) (p_cmp rfl rfl rfl rfl))) ?_
          refine w_ (p_pickT rfl (decide_eq_true (by omega)) rfl rfl) ?_
          refine aw_nil ?_
          refine ac_t rfl (decide_eq_true hgm) ?_
          refine ac_skip ?_
          refine ac_block ?_
          refine ac_reg ?_
          refine w_ (p_move rfl rfl) ?_
          refine w_ (p_move rfl rfl) ?_
          refine w_ (p_len (m := k) Tryz.runUnderlying22 rfl (rfl) rfl) ?_
          refine w_ (p_sub (r := ((k - 1 : Nat) : Int)) rfl rfl (i64_is (by omega) (by omega)) rfl) ?_
          refine w_ (p_sliceOHi (k - 1) Tryz.runUnderlying22 Tryz.sizeOf76 rfl rfl rfl (by omega) rfl) ?_
          refine w_ (p_assign rfl rfl) ?_
          refine aw_pick [2, 7, 8, 9, 10, 5] rfl ?_
          refine aw_nil ?_
          refine ⟨_, ?_, k - 1, by omega, by rw [← hq1, popK_on (by omega) ha hb hgm], rfl, rfl, rfl⟩
          omega
        · have hpop : popK q (chain q (row.take i)) c (chain q (row.take i)).length = k := by rw [← hq1, popK_off (by omega) ha hb hgm]
          refine ac_seq ?_
          refine ac_seq ?_
          refine ac_draw mixed_ 22 [14, 15, 16, 17, 18, 19, 20, 21, 22, 23, 24, 25, 26, 27, 28, 29, 30, 31, 32, 33, 34, 35] [[], [0], [1], [2], [3], [3], [3, 5], [3, 6], [3, 4, 7], [3, 8], [3, 9], [3], [3], [3, 12], [3, 13], [3, 11, 14], [3, 15], [3, 16], [3], [3, 18], [3, 10, 17, 19], [3]] [.one (.orow r 5 0 k), .one (.int .i64 (((k : Nat) : Int))), .one (.bool ((decide (1 < (((k : Nat) : Int)))))), .one (.bool ((decide (1 < (((k : Nat) : Int)))))), .one (.orow r 5 0 k), .one (.orow r 5 0 k), .one (.int .i64 (((k : Nat) : Int))), .one (.int .i64 (((k - 2 : Nat) : Int))), .one (.oel r 5 ((0 + ((k - 2)))) 0), .one (.oel r 5 ((0 + ((k - 2)))) 0), .agg [pl a.c.x, pl a.c.y, sg a.c.d, mg a.c.d], .one (.orow r 5 0 k), .one (.orow r 5 0 k), .one (.int .i64 (((k : Nat) : Int))), .one (.int .i64 (((k - 1 : Nat) : Int))), .one (.oel r 5 ((0 + ((k - 1)))) 0), .one (.oel r 5 ((0 + ((k - 1)))) 0), .agg [pl b.c.x, pl b.c.y, sg b.c.d, mg b.c.d], .one (.ow g1 0), .agg [pl c.c.x, pl c.c.y, sg c.c.d, mg c.c.d], .one (pl (porient a.c b.c c.c)), .agg [pl ([-q.num, (q.den : Int)]), sg q.num, mg q.num, sg ((q.den : Int)), mg ((q.den : Int)), sg q.num, mg q.num, sg ((q.den : Int)), mg ((q.den : Int))]] rfl rfl rfl ⟨p_move rfl rfl, p_len (m := k) Tryz.runUnderlying22 rfl (rfl) rfl, p_cmp rfl rfl rfl rfl, p_move rfl rfl, (p_grun rfl rfl (decide_eq_true (by omega)) (p_move rfl rfl)), (p_grun rfl rfl (decide_eq_true (by omega)) (p_move rfl rfl)), (p_grun rfl rfl (decide_eq_true (by omega)) (p_len (m := k) Tryz.runUnderlying22 rfl (rfl) rfl)), (p_grun rfl rfl (decide_eq_true (by omega)) (p_sub (r := ((k - 2 : Nat) : Int)) rfl rfl (i64_is (by omega) (by omega)) rfl)), (p_grun rfl rfl (decide_eq_true (by omega)) (p_indexO ((k - 2)) Tryz.runUnderlying22 Tryz.sizeOf76 rfl rfl (rfl) (by omega) rfl)), (p_grun rfl rfl (decide_eq_true (by omega)) (p_fieldO fa_76_0 rfl rfl)), (p_grun rfl rfl (decide_eq_true (by omega)) (p_loadO 1 Tryz.isAgg74 Tryz.sizeOf74 rfl rfl (by rw [Nat.zero_add]; exact map_get ha) rfl rfl rfl)), (p_grun rfl rfl (decide_eq_true (by omega)) (p_move rfl rfl)), (p_grun rfl rfl (decide_eq_true (by omega)) (p_move rfl rfl)), (p_grun rfl rfl (decide_eq_true (by omega)) (p_len (m := k) Tryz.runUnderlying22 rfl (rfl) rfl)), (p_grun rfl rfl (decide_eq_true (by omega)) (p_sub (r := ((k - 1 : Nat) : Int)) rfl rfl (i64_is (by omega) (by omega)) rfl)), (p_grun rfl rfl (decide_eq_true (by omega)) (p_indexO ((k - 1)) Tryz.runUnderlying22 Tryz.sizeOf76 rfl rfl (rfl) (by omega) rfl)), (p_grun rfl rfl (decide_eq_true (by omega)) (p_fieldO fa_76_0 rfl rfl)), (p_grun rfl rfl (decide_eq_true (by omega)) (p_loadO 1 Tryz.isAgg74 Tryz.sizeOf74 rfl rfl (by rw [Nat.zero_add]; exact map_get hb) rfl rfl rfl)), (p_grun rfl rfl (decide_eq_true (by omega)) (p_fieldOw fa_76_0 rfl rfl)), (p_grun rfl rfl (decide_eq_true (by omega)) (p_loadOw 0 Tryz.isAgg74 Tryz.sizeOf74 rfl rfl rfl rfl rfl)), (p_grun rfl rfl (decide_eq_true (by omega)) (p_call Tryz.func164 rfl rfl rfl rfl (d_pred_Orient (hag.1) (hbg.1) (hcg.1) (hag.2) (hbg.2) (hcg.2)) rfl)), (p_grun rfl rfl (decide_eq_true (by omega)) (p_loadSh Tryz.isAgg59 Tryz.sizeOf59 rfl rfl rfl rfl)), trivial⟩ rfl ?_
          refine w_ ((p_grun rfl rfl (decide_eq_true (by omega)) (p_call Tryz.func99 rfl rfl rfl rfl (d_germ_AtQ (pb_orient hag.1 hbg.1 hcg.1 hag.2 hbg.2 hcg.2) (hq)) rfl))) ?_
          refine w_ ((p_grun rfl rfl (decide_eq_true (by omega)) (p_cmp rfl rfl rfl rfl))) ?_
          refine w_ (p_pickT rfl (decide_eq_true (by omega)) rfl rfl) ?_
          refine aw_nil ?_
          refine ac_f rfl (decide_eq_false hgm) ?_
          refine ac_pick [2, 7, 8, 9, 10, 5] rfl ?_
          refine ac_exit ?_
          repeat refine seqQ_exit ?_
          refine blkQ_here ?_
          exact ⟨k, hq0, hpop, rfl, rfl⟩
    · rintro L B ⟨k, hp0, hp1, rfl, rfl⟩
      skip
      · skip
        refine ac_reg ?_
        refine w_ (p_move rfl rfl) ?_
        refine w_ (p_loadOw 0 Tryz.isAgg76 Tryz.sizeOf76 rfl rfl rfl rfl rfl) ?_
        refine w_ (p_lit Tryz.runUnderlying22 Tryz.sizeOf76 Tryz.zeroValue76 rfl rfl rfl rfl rfl rfl rfl rfl rfl rfl) ?_
        refine a_append (ls2 := ((chain q (row.take (i + 1))).map ofPt)) (m2 := (chain q (row.take (i + 1))).length) 1 Tryz.runUnderlying22 Tryz.runUnderlying22 Tryz.typeInfo76 rfl rfl Tryz.sizeOf76 Tryz.zeroValue76 rfl rfl rfl rfl rfl rfl rfl (by rw [List.length_map]; omega) (one_w rfl) (one_f rfl) (by show _ + 1 < _; omega) (by rw [chain_take hc, chainS, hp1, List.map_append, List.map_take]; rfl) (by rw [chain_take hc, chainS, hp1, List.length_append, List.length_take]; show k + 1 = _ + 1; omega) fun r2 => ?_
        refine w_ (p_assign rfl rfl) ?_
        refine aw_nil ?_
        refine ac_reg ?_
        refine w_ (p_add (r := ((i + 1 : Nat) : Int)) rfl rfl (i64_is (by omega) (by omega)) rfl) ?_
        refine w_ (p_move rfl rfl) ?_
        refine aw_pick [2, 5, 8, 9, 10] rfl ?_
        refine aw_drop 1 rfl ?_
        refine aw_nil ?_
        refine ⟨_, ?_, i + 1, r2, by omega, rfl, rfl, rfl⟩
        omega
  · have hi : row.take i = row := List.take_of_length_le (by omega)
    refine ac_seq ?_
    refine ac_reg ?_
    refine w_ (p_cmp rfl rfl rfl rfl) ?_
    refine aw_nil ?_
    refine ac_seq ?_
    refine ac_f rfl (decide_eq_false (by omega)) ?_
    refine ac_exit ?_
    repeat refine seqQ_exit ?_
    refine blkQ_here ?_
    refine ac_seq ?_
    refine ac_reg ?_
    refine w_ (p_move rfl rfl) ?_
    refine w_ (p_assign rfl rfl) ?_
    refine aw_nil ?_
    refine ac_pub 0 [4] rfl (allAre1 rfl) (by rw [List.length_map]) (by rw [List.length_map]; omega) rfl ?_
    refine ac_ret ?_
    exact retB_1 Tryz.results277 (rv_tmp rfl rfl) (by rw [hi]; rfl)

set_option maxRecDepth 20000 in
theorem d_hull_round {row : List Pt} {q : Rat} (hq : Qb q) (hg : GoodP row) (hn : row.length ≤ 1000000) : Does Tryz.prog 210 [.agg [pl ([-q.num, (q.den : Int)]), sg q.num, mg q.num, sg ((q.den : Int)), mg ((q.den : Int)), sg q.num, mg q.num, sg ((q.den : Int)), mg ((q.den : Int))], .one (pts row)] (.one (pts ((hround q row)))) := by
  refine does_ (n := 47) Tryz.func210 rfl Tryz.ntmps210 rfl ?_
  by_cases h3 : row.length < 3
  · skip
    refine ac_seq ?_
    refine ac_reg ?_
    refine w_ (p_boxS rfl rfl rfl rfl) ?_
    refine w_ (p_assign rfl rfl) ?_
    refine aw_nil ?_
    refine ac_seq ?_
    refine ac_seq ?_
    refine ac_reg ?_
    refine w_ (p_move rfl rfl) ?_
    refine w_ (p_len (m := row.length) Tryz.runUnderlying22 rfl (rlen_pts _) rfl) ?_
    refine w_ (p_cmp rfl rfl rfl rfl) ?_
    refine aw_nil ?_
    refine ac_t rfl (decide_eq_true (by omega)) ?_
    refine ac_seq ?_
    refine ac_reg ?_
    refine w_ (p_move rfl rfl) ?_
    refine w_ (p_assign rfl rfl) ?_
    refine aw_nil ?_
    refine ac_ret ?_
    exact retB_1 Tryz.results210 (rv_tmp rfl rfl) (by rw [hround, if_pos h3])
  · have hgr : GoodP row.reverse := fun a ha => hg a (List.mem_reverse.1 ha)
    have hl1 := chain_len q row
    have hl2 := chain_len q row.reverse
    rw [List.length_reverse] at hl2
    have hl3 := chain_two q (l := row) (by omega)
    have hl4 := chain_two q (l := row.reverse) (by rw [List.length_reverse]; omega)
    have hl5 := hround_len q row
    refine ac_seq ?_
    refine ac_reg ?_
    refine w_ (p_boxS rfl rfl rfl rfl) ?_
    refine w_ (p_assign rfl rfl) ?_
    refine aw_nil ?_
    refine ac_seq ?_
    refine ac_seq ?_
    refine ac_reg ?_
    refine w_ (p_move rfl rfl) ?_
    refine w_ (p_len (m := row.length) Tryz.runUnderlying22 rfl (rlen_pts _) rfl) ?_
    refine w_ (p_cmp rfl rfl rfl rfl) ?_
    refine aw_nil ?_
    refine ac_f rfl (decide_eq_false (by omega)) ?_
    refine ac_skip ?_
    refine ac_seq ?_
    refine ac_reg ?_
    refine w_ (p_assign rfl rfl) ?_
    refine aw_nil ?_
    refine ac_seq ?_
    refine ac_seq ?_
    refine ac_reg ?_
    refine w_ (p_move rfl rfl) ?_
    refine w_ (p_len (m := row.length) Tryz.runUnderlying22 rfl (rlen_pts _) rfl) ?_
    refine w_ (p_sub (r := ((row.length : Int) - 1)) rfl rfl (i64_is rfl (by omega)) rfl) ?_
    refine w_ (p_assign rfl rfl) ?_
    refine aw_nil ?_
    refine ac_block ?_
    refine ac_ownNil [5] 76 5 rfl (allAre1 rfl) rfl ?_
    refine ac_slotEq 6 (y := .one (.int .i64 ((row.length : Int) - 1 - ((0 : Nat) : Int)))) rfl (by rw [show ((row.length : Int) - 1 - ((0 : Nat) : Int)) = (row.length : Int) - 1 from by omega]) ?_
    refine ac_pick [1, 2, 5, 6] rfl ?_
    refine ac_loop (fun m L B => ∃ mm r, mm ≤ row.length ∧ m = row.length - mm ∧ L = [(1, .one (pts row)), (2, .one (.sh [pl ([-q.num, (q.den : Int)]), sg q.num, mg q.num, sg ((q.den : Int)), mg ((q.den : Int)), sg q.num, mg q.num, sg ((q.den : Int)), mg ((q.den : Int))])), (5, .one (.orow r 5 0 mm)), (6, .one (.int .i64 (((row.length : Int) - 1 - (mm : Int)))))] ∧ B = [.row r 76 5 ((row.reverse.take mm).map ofPt)]) (m := _) ⟨0, none, Nat.zero_le _, rfl, rfl, rfl⟩ ?_
    rintro m L B ⟨mm, r, hp0, hm, rfl, rfl⟩
    by_cases hlt : mm < row.length
    · obtain ⟨c, hc⟩ : ∃ c, row[row.length - 1 - mm]? = some c := ⟨_, List.getElem?_eq_getElem (by omega)⟩
      have hrc : row.reverse[mm]? = some c := by rw [List.getElem?_reverse hlt]; exact hc
      refine ac_seq ?_
      refine ac_seq ?_
      refine ac_reg ?_
      refine w_ (p_move rfl rfl) ?_
      refine w_ (p_cmp rfl rfl rfl rfl) ?_
      refine aw_nil ?_
      refine ac_t rfl (decide_eq_true (by omega)) ?_
      refine ac_skip ?_
      refine ac_seq ?_
      refine ac_block ?_
      refine ac_reg ?_
      refine w_ (p_move rfl rfl) ?_
      refine w_ (p_move rfl rfl) ?_
      refine w_ (p_move rfl rfl) ?_
      refine w_ (p_index (row.length - 1 - mm) Tryz.runUnderlying22 Tryz.sizeOf76 rfl rfl (by omega) (map_get hc) rfl rfl) ?_
      refine w_ (p_loadSh Tryz.isAgg76 Tryz.sizeOf76 rfl rfl rfl rfl) ?_
      refine w_ (p_lit Tryz.runUnderlying22 Tryz.sizeOf76 Tryz.zeroValue76 rfl rfl rfl rfl rfl rfl rfl rfl rfl rfl) ?_
      refine a_append (ls2 := ((row.reverse.take (mm + 1)).map ofPt)) (m2 := mm + 1) 0 Tryz.runUnderlying22 Tryz.runUnderlying22 Tryz.typeInfo76 rfl rfl Tryz.sizeOf76 Tryz.zeroValue76 rfl rfl rfl rfl rfl rfl rfl (by rw [List.length_map, List.length_take, List.length_reverse]; omega) (one_w rfl) (one_f rfl) (by show _ + 1 < _; omega) (by rw [List.take_of_length_le (by rw [List.length_map, List.length_take, List.length_reverse]; omega), take_snoc hrc]; exact snoc_map ofPt _ _) (rfl) fun r1 => ?_
      refine w_ (p_assign rfl rfl) ?_
      refine aw_nil ?_
      refine ac_reg ?_
      refine w_ (p_move rfl rfl) ?_
      refine w_ (p_sub (r := ((row.length : Int) - 1 - ((mm + 1 : Nat) : Int))) rfl rfl (i64_is (by omega) (by omega)) rfl) ?_
      refine w_ (p_assign rfl rfl) ?_
      refine aw_pick [1, 2, 5, 6] rfl ?_
      refine aw_nil ?_
      refine ⟨_, ?_, mm + 1, r1, by omega, rfl, rfl, rfl⟩
      omega
    · have hi : (row.reverse.take mm) = row.reverse := List.take_of_length_le (by rw [List.length_reverse]; omega)
      refine ac_pub (L2 := _) 0 [5] rfl (allAre1 rfl) (by rw [List.length_map, hi, List.length_reverse]; omega) (by rw [List.length_map, hi, List.length_reverse]; omega) rfl ?_
      refine ac_slotEq 5 (y := .one (pts row.reverse)) rfl (by rw [hi]; rfl) ?_
      refine ac_seq ?_
      refine ac_seq ?_
      refine ac_reg ?_
      refine w_ (p_move rfl rfl) ?_
      refine w_ (p_cmp rfl rfl rfl rfl) ?_
      refine aw_nil ?_
      refine ac_f rfl (decide_eq_false (by omega)) ?_
      refine ac_exit ?_
      repeat refine seqQ_exit ?_
      refine blkQ_here ?_
      refine ac_seq ?_
      refine ac_draw mixed_ 5 [27, 28, 29, 30, 31] [[], [], [0, 1], [], []] [.agg [pl ([-q.num, (q.den : Int)]), sg q.num, mg q.num, sg ((q.den : Int)), mg ((q.den : Int)), sg q.num, mg q.num, sg ((q.den : Int)), mg ((q.den : Int))], .one (pts row), .one (pts ((chain q row))), .agg [pl ([-q.num, (q.den : Int)]), sg q.num, mg q.num, sg ((q.den : Int)), mg ((q.den : Int)), sg q.num, mg q.num, sg ((q.den : Int)), mg ((q.den : Int))], .one (pts row.reverse)] rfl rfl rfl ⟨p_loadSh Tryz.isAgg59 Tryz.sizeOf59 rfl rfl rfl rfl, p_move rfl rfl, p_call Tryz.func277 rfl rfl rfl rfl (d_hull_chain (hq) (hg) (hn)) rfl, p_loadSh Tryz.isAgg59 Tryz.sizeOf59 rfl rfl rfl rfl, p_move rfl rfl, trivial⟩ rfl ?_
      refine w_ (p_call Tryz.func277 rfl rfl rfl rfl (d_hull_chain (hq) (hgr) (by rw [List.length_reverse]; exact hn)) rfl) ?_
      refine w_ (p_assign rfl rfl) ?_
      refine w_ (p_assign rfl rfl) ?_
      refine aw_nil ?_
      refine ac_seq ?_
      refine ac_draw mixed_ 13 [33, 34, 35, 36, 37, 38, 39, 40, 41, 42, 43, 44, 45] [[], [], [1], [2], [], [4], [5], [0, 3, 6], [], [], [9], [10], [8, 11]] [.one (pts ((chain q row))), .one (pts ((chain q row))), .one (.int .i64 (((((chain q row)).length : Nat) : Int))), .one (.int .i64 ((((chain q row).length - 1 : Nat) : Int))), .one (pts ((chain q row))), .one (.int .i64 (((((chain q row)).length : Nat) : Int))), .one (.int .i64 ((((chain q row).length - 1 : Nat) : Int))), .one (.frow (((chain q row).take ((chain q row).length - 1)).map ofPt)), .one (pts ((chain q row.reverse))), .one (pts ((chain q row.reverse))), .one (.int .i64 (((((chain q row.reverse)).length : Nat) : Int))), .one (.int .i64 ((((chain q row.reverse).length - 1 : Nat) : Int))), .one (pts (((chain q row.reverse).take ((chain q row.reverse).length - 1))))] rfl rfl rfl ⟨p_move rfl rfl, p_move rfl rfl, p_len (m := ((chain q row)).length) Tryz.runUnderlying22 rfl (rlen_pts _) rfl, p_sub (r := (((chain q row).length - 1 : Nat) : Int)) rfl rfl (i64_is (by omega) (by omega)) rfl, p_move rfl rfl, p_len (m := ((chain q row)).length) Tryz.runUnderlying22 rfl (rlen_pts _) rfl, p_sub (r := (((chain q row).length - 1 : Nat) : Int)) rfl rfl (i64_is (by omega) (by omega)) rfl, p_slice3 ((chain q row).length - 1) Tryz.runUnderlying22 Tryz.sizeOf76 rfl rfl rfl rfl rfl (by rw [List.length_map]; omega) (map_w _ (fun _ => rfl)) (l' := ((chain q row).take ((chain q row).length - 1)).map ofPt) (by rw [List.map_take]) rfl, p_move rfl rfl, p_move rfl rfl, p_len (m := ((chain q row.reverse)).length) Tryz.runUnderlying22 rfl (rlen_pts _) rfl, p_sub (r := (((chain q row.reverse).length - 1 : Nat) : Int)) rfl rfl (i64_is (by omega) (by omega)) rfl, p_sliceHi ((chain q row.reverse).length - 1) Tryz.runUnderlying22 Tryz.sizeOf76 rfl rfl rfl (by rw [List.length_map]; omega) (map_w _ (fun _ => rfl)) (l' := ((chain q row.reverse).take ((chain q row.reverse).length - 1)).map ofPt) (by rw [List.map_take]) rfl, trivial⟩ rfl ?_
      refine a_appendF (ls2 := (hround q row).map ofPt) (m2 := (hround q row).length) Tryz.runUnderlying22 Tryz.runUnderlying22 Tryz.typeInfo76 rfl rfl Tryz.sizeOf76 Tryz.zeroValue76 rfl rfl rfl rfl rfl rfl rfl (map_w _ (fun _ => rfl)) (map_f _ (fun _ => rfl)) (map_w _ (fun _ => rfl)) (map_f _ (fun _ => rfl)) (by rw [List.length_map, List.length_take]; omega) (by rw [List.length_map, List.length_map, List.length_take, List.length_take]; omega) (by rw [hround, if_neg h3, List.map_append]) (by rw [hround, if_neg h3, List.length_append, List.length_map, List.length_map]) fun r2 => ?_
      refine w_ (p_assign rfl rfl) ?_
      refine aw_nil ?_
      refine ac_pub 0 [4] rfl (allAre1 rfl) (by rw [List.length_map]) (by rw [List.length_map]; omega) rfl ?_
      refine ac_ret ?_
      exact retB_1 Tryz.results210 (rv_tmp rfl rfl) (rfl)

theorem edgesK_next {q : Rat} {cs l : List Pt} {i : Nat} {a b : Pt} (ha : cs[i]? = some a) (hb : cs[(i + 1) % cs.length]? = some b) : edgesK q cs l (i + 1) = edgesK q cs l i ++ edgeC q a b l := by
  simp only [edgesK]
  rw [List.getD_eq_getElem?_getD, List.getD_eq_getElem?_getD, ha, hb]; rfl
theorem hcorners_mem {q : Rat} {l : List Pt} {a : Pt} (h : a ∈ hcorners q l) : a ∈ l := ways_mem (sortP_mem (hround_mem h))
theorem hcorners_len (q : Rat) (l : List Pt) : (hcorners q l).length ≤ 2 * l.length := by
  have h1 := hround_len q (sortP q (ways l))
  rw [sortP_len] at h1
  have := ways_len l
  unfold hcorners; omega
theorem hullC_le (q : Rat) (l : List Pt) (h : l.length ≤ 10) : (hullC q l).length ≤ 100000 := by
  unfold hullC
  rw [List.length_append, orders_len, sortP_len]
  have h1 := hcorners_len q l
  have h2 := edgesK_len q (hcorners q l) l (hcorners q l).length
  have h3 : (hcorners q l).length * l.length ≤ 20 * 10 := Nat.mul_le_mul (by omega) h
  split
  · simp; omega
  · omega
theorem edgesK_pb {q : Rat} {cs l : List Pt} (hc : GoodP cs) (hl : GoodP l) : ∀ k, k ≤ cs.length → ∀ c ∈ edgesK q cs l k, Pb c.p
  | 0, _, c, h => by simp [edgesK] at h
  | k + 1, hk, c, h => by
    have hm : (k + 1) % cs.length < cs.length := Nat.mod_lt _ (by omega)
    have g1 : cs[k]? = some (cs[k]'(by omega)) := List.getElem?_eq_getElem (by omega)
    have g2 : cs[(k + 1) % cs.length]? = some (cs[(k + 1) % cs.length]'hm) := List.getElem?_eq_getElem hm
    rw [edgesK_next g1 g2] at h
    rcases List.mem_append.1 h with h | h
    · exact edgesK_pb hc hl k (by omega) c h
    · unfold edgeC at h
      obtain ⟨x, hx, rfl⟩ := List.mem_map.1 h
      have hx := hl x (List.mem_filter.1 hx).1
      have ha := hc _ (List.getElem_mem (by omega : k < cs.length))
      have hb := hc _ (List.getElem_mem hm)
      show Pb (mkOrient q _ _ x).p
      rw [mkOrient]
      exact pb_orient ha.1 hb.1 hx.1 ha.2 hb.2 hx.2
theorem hullC_pb (q : Rat) {l : List Pt} (hl : GoodP l) : ∀ c ∈ hullC q l, Pb c.p := by
  intro c h
  unfold hullC at h
  rcases List.mem_append.1 h with h | h
  · exact orders_pb (fun a ha => hl a (sortP_mem ha)) c h
  · split at h
    · cases h
    · exact edgesK_pb (fun a ha => hl a (hcorners_mem ha)) hl _ (Nat.le_refl _) c h

set_option maxRecDepth 20000 in
theorem d_hull_build {g : Nat} {c0 c1 c2 c3 c4 c5 c6 c7 c8 c9 c10 c11 y1 : LV} {l : List Pt} {q : Rat} (hq : Qb q) (hl : GoodP l) (hn : l.length ≤ 1000) : DoesB Tryz.prog 133 [.one (.ow g 0), .agg [pl ([-q.num, (q.den : Int)]), sg q.num, mg q.num, sg ((q.den : Int)), mg ((q.den : Int)), sg q.num, mg q.num, sg ((q.den : Int)), mg ((q.den : Int))]] [.blk g 215 [c0, c1, c2, c3, c4, c5, c6, c7, c8, c9, c10, c11, pts l, y1]] fun r B => r = .one (cts ((hullC q l))) ∧ B = [.blk g 215 [c0, c1, c2, c3, c4, c5, c6, c7, c8, c9, c10, c11, pts l, pts ((hcorners q l))]] := by
  refine does_ (n := 105) Tryz.func133 rfl Tryz.ntmps133 rfl ?_
  have hgw : GoodP (ways l) := fun a ha => hl a (ways_mem ha)
  have hgsw : GoodP (sortP q (ways l)) := fun a ha => hgw a (sortP_mem ha)
  have hgs : GoodP (sortP q l) := fun a ha => hl a (sortP_mem ha)
  have hgc : GoodP (hcorners q l) := fun a ha => hl a (hcorners_mem ha)
  have hwl := ways_len l
  have hcl := hcorners_len q l
  have hol0 : (orders q (sortP q l)).length ≤ 1000 := by rw [orders_len, sortP_len]; omega
  by_cases hc2 : (hcorners q l).length < 2
  · skip
    refine ac_seq ?_
    refine ac_reg ?_
    refine w_ (p_boxS rfl rfl rfl rfl) ?_
    refine w_ (p_assign rfl rfl) ?_
    refine aw_nil ?_
    refine ac_seq ?_
    refine ac_draw mixed_ 10 [14, 15, 16, 17, 18, 19, 20, 21, 22, 23] [[], [], [], [], [3], [4], [5], [6], [2, 7], [1, 8]] [.one (.ow g 0), .agg [pl ([-q.num, (q.den : Int)]), sg q.num, mg q.num, sg ((q.den : Int)), mg ((q.den : Int)), sg q.num, mg q.num, sg ((q.den : Int)), mg ((q.den : Int))], .agg [pl ([-q.num, (q.den : Int)]), sg q.num, mg q.num, sg ((q.den : Int)), mg ((q.den : Int)), sg q.num, mg q.num, sg ((q.den : Int)), mg ((q.den : Int))], .one (.ow g 0), .one (.ow g 0), .one (.ow g 12), .agg [pts l], .one (pts ((ways l))), .one (pts ((sortP q ((ways l))))), .one (pts ((hcorners q l)))] rfl rfl rfl ⟨p_move rfl rfl, p_loadSh Tryz.isAgg59 Tryz.sizeOf59 rfl rfl rfl rfl, p_loadSh Tryz.isAgg59 Tryz.sizeOf59 rfl rfl rfl rfl, p_move rfl rfl, p_nilCheck rfl rfl rfl, p_fieldOw fa_215_1 rfl rfl, p_loadOw 0 Tryz.isAgg106 Tryz.sizeOf106 rfl rfl rfl rfl rfl, p_call Tryz.func208 rfl rfl rfl rfl (d_crowd_Ways (fun a ha => ⟨(hl a ha).1, (hl a ha).2.mono (by omega) (by omega)⟩) (by omega)) rfl, p_call Tryz.func211 rfl rfl rfl rfl (d_sorted_Row (hq) (hgw) (by omega)) rfl, p_call Tryz.func210 rfl rfl rfl rfl (d_hull_round hq hgsw (by rw [sortP_len]; omega)) rfl, trivial⟩ rfl ?_
    refine w_ (p_nilCheck rfl rfl rfl) ?_
    refine w_ (p_fieldOw fa_215_2 rfl rfl) ?_
    refine a_storeOw 0 Tryz.sizeOf22 rfl rfl rfl rfl rfl rfl rfl ?_
    refine aw_nil ?_
    refine ac_seq ?_
    refine ac_draw mixed_ 6 [26, 27, 28, 29, 30, 31] [[], [], [1], [2], [3], [4]] [.agg [pl ([-q.num, (q.den : Int)]), sg q.num, mg q.num, sg ((q.den : Int)), mg ((q.den : Int)), sg q.num, mg q.num, sg ((q.den : Int)), mg ((q.den : Int))], .one (.ow g 0), .one (.ow g 0), .one (.ow g 12), .agg [pts l], .one (pts l)] rfl rfl rfl ⟨p_loadSh Tryz.isAgg59 Tryz.sizeOf59 rfl rfl rfl rfl, p_move rfl rfl, p_nilCheck rfl rfl rfl, p_fieldOw fa_215_1 rfl rfl, p_loadOw 0 Tryz.isAgg106 Tryz.sizeOf106 rfl rfl rfl rfl rfl, p_call Tryz.func197 rfl rfl rfl rfl (d_crowd_List) rfl, trivial⟩ rfl ?_
    refine w_ (p_call Tryz.func211 rfl rfl rfl rfl (d_sorted_Row (hq) (hl) (by omega)) rfl) ?_
    refine w_ (p_assign rfl rfl) ?_
    refine aw_nil ?_
    refine ac_seq ?_
    refine ac_reg ?_
    refine w_ (p_loadSh Tryz.isAgg59 Tryz.sizeOf59 rfl rfl rfl rfl) ?_
    refine w_ (p_move rfl rfl) ?_
    refine a_calls (Bin := []) Tryz.func212 rfl rfl rfl rfl (d_sorted_Certs hq hgs (by rw [sortP_len]; omega)) rfl fun r_ B_ hr_ => ?_
    obtain ⟨rc, rfl, rfl⟩ := hr_
    refine w_ (p_assign rfl rfl) ?_
    refine aw_nil ?_
    refine ac_seq ?_
    refine ac_seq ?_
    refine ac_reg ?_
    refine w_ (p_move rfl rfl) ?_
    refine w_ (p_nilCheck rfl rfl rfl) ?_
    refine w_ (p_fieldOw fa_215_2 rfl rfl) ?_
    refine w_ (p_loadOw 1 Tryz.isAgg22 Tryz.sizeOf22 rfl rfl rfl rfl rfl) ?_
    refine w_ (p_len (m := ((hcorners q l)).length) Tryz.runUnderlying22 rfl (rlen_pts _) rfl) ?_
    refine w_ (p_cmp rfl rfl rfl rfl) ?_
    refine aw_nil ?_
    refine ac_t rfl (decide_eq_true (by omega)) ?_
    refine ac_seq ?_
    refine ac_reg ?_
    refine w_ (p_move rfl rfl) ?_
    refine w_ (p_assign rfl rfl) ?_
    refine aw_nil ?_
    refine ac_pub (L2 := _) 0 [4] rfl (allAre1 rfl) (by rw [List.length_map]) (by rw [List.length_map]; omega) rfl ?_
    refine ac_slotEq 4 (y := .one (cts (hullC q l))) rfl (by rw [hullC, if_pos hc2, List.append_nil]; rfl) ?_
    refine ac_ret ?_
    exact ⟨_, [], _, rvs_1 Tryz.results133 (rv_tmp rfl rfl), rfl, ⟨rfl, rfl⟩⟩
  · skip
    refine ac_seq ?_
    refine ac_reg ?_
    refine w_ (p_boxS rfl rfl rfl rfl) ?_
    refine w_ (p_assign rfl rfl) ?_
    refine aw_nil ?_
    refine ac_seq ?_
    refine ac_draw mixed_ 10 [14, 15, 16, 17, 18, 19, 20, 21, 22, 23] [[], [], [], [], [3], [4], [5], [6], [2, 7], [1, 8]] [.one (.ow g 0), .agg [pl ([-q.num, (q.den : Int)]), sg q.num, mg q.num, sg ((q.den : Int)), mg ((q.den : Int)), sg q.num, mg q.num, sg ((q.den : Int)), mg ((q.den : Int))], .agg [pl ([-q.num, (q.den : Int)]), sg q.num, mg q.num, sg ((q.den : Int)), mg ((q.den : Int)), sg q.num, mg q.num, sg ((q.den : Int)), mg ((q.den : Int))], .one (.ow g 0), .one (.ow g 0), .one (.ow g 12), .agg [pts l], .one (pts ((ways l))), .one (pts ((sortP q ((ways l))))), .one (pts ((hcorners q l)))] rfl rfl rfl ⟨p_move rfl rfl, p_loadSh Tryz.isAgg59 Tryz.sizeOf59 rfl rfl rfl rfl, p_loadSh Tryz.isAgg59 Tryz.sizeOf59 rfl rfl rfl rfl, p_move rfl rfl, p_nilCheck rfl rfl rfl, p_fieldOw fa_215_1 rfl rfl, p_loadOw 0 Tryz.isAgg106 Tryz.sizeOf106 rfl rfl rfl rfl rfl, p_call Tryz.func208 rfl rfl rfl rfl (d_crowd_Ways (fun a ha => ⟨(hl a ha).1, (hl a ha).2.mono (by omega) (by omega)⟩) (by omega)) rfl, p_call Tryz.func211 rfl rfl rfl rfl (d_sorted_Row (hq) (hgw) (by omega)) rfl, p_call Tryz.func210 rfl rfl rfl rfl (d_hull_round hq hgsw (by rw [sortP_len]; omega)) rfl, trivial⟩ rfl ?_
    refine w_ (p_nilCheck rfl rfl rfl) ?_
    refine w_ (p_fieldOw fa_215_2 rfl rfl) ?_
    refine a_storeOw 0 Tryz.sizeOf22 rfl rfl rfl rfl rfl rfl rfl ?_
    refine aw_nil ?_
    refine ac_seq ?_
    refine ac_draw mixed_ 6 [26, 27, 28, 29, 30, 31] [[], [], [1], [2], [3], [4]] [.agg [pl ([-q.num, (q.den : Int)]), sg q.num, mg q.num, sg ((q.den : Int)), mg ((q.den : Int)), sg q.num, mg q.num, sg ((q.den : Int)), mg ((q.den : Int))], .one (.ow g 0), .one (.ow g 0), .one (.ow g 12), .agg [pts l], .one (pts l)] rfl rfl rfl ⟨p_loadSh Tryz.isAgg59 Tryz.sizeOf59 rfl rfl rfl rfl, p_move rfl rfl, p_nilCheck rfl rfl rfl, p_fieldOw fa_215_1 rfl rfl, p_loadOw 0 Tryz.isAgg106 Tryz.sizeOf106 rfl rfl rfl rfl rfl, p_call Tryz.func197 rfl rfl rfl rfl (d_crowd_List) rfl, trivial⟩ rfl ?_
    refine w_ (p_call Tryz.func211 rfl rfl rfl rfl (d_sorted_Row (hq) (hl) (by omega)) rfl) ?_
    refine w_ (p_assign rfl rfl) ?_
    refine aw_nil ?_
    refine ac_seq ?_
    refine ac_reg ?_
    refine w_ (p_loadSh Tryz.isAgg59 Tryz.sizeOf59 rfl rfl rfl rfl) ?_
    refine w_ (p_move rfl rfl) ?_
    refine a_calls (Bin := []) Tryz.func212 rfl rfl rfl rfl (d_sorted_Certs hq hgs (by rw [sortP_len]; omega)) rfl fun r_ B_ hr_ => ?_
    obtain ⟨rc, rfl, rfl⟩ := hr_
    refine w_ (p_assign rfl rfl) ?_
    refine aw_nil ?_
    refine ac_seq ?_
    refine ac_seq ?_
    refine ac_reg ?_
    refine w_ (p_move rfl rfl) ?_
    refine w_ (p_nilCheck rfl rfl rfl) ?_
    refine w_ (p_fieldOw fa_215_2 rfl rfl) ?_
    refine w_ (p_loadOw 1 Tryz.isAgg22 Tryz.sizeOf22 rfl rfl rfl rfl rfl) ?_
    refine w_ (p_len (m := ((hcorners q l)).length) Tryz.runUnderlying22 rfl (rlen_pts _) rfl) ?_
    refine w_ (p_cmp rfl rfl rfl rfl) ?_
    refine aw_nil ?_
    refine ac_f rfl (decide_eq_false (by omega)) ?_
    refine ac_skip ?_
    refine ac_seq ?_
    refine ac_seq ?_
    refine ac_reg ?_
    refine w_ (p_move rfl rfl) ?_
    refine w_ (p_nilCheck rfl rfl rfl) ?_
    refine w_ (p_fieldOw fa_215_2 rfl rfl) ?_
    refine w_ (p_loadOw 1 Tryz.isAgg22 Tryz.sizeOf22 rfl rfl rfl rfl rfl) ?_
    refine w_ (p_len (m := ((hcorners q l)).length) Tryz.runUnderlying22 rfl (rlen_pts _) rfl) ?_
    refine w_ (p_move rfl rfl) ?_
    refine aw_nil ?_
    refine ac_block ?_
    refine ac_pick [0, 3, 6, 46, 47, 48] rfl ?_
    refine ac_loop (fun m L B => ∃ i r O, i ≤ (hcorners q l).length ∧ O = (orders q (sortP q l)) ++ edgesK q (hcorners q l) l i ∧ m = (hcorners q l).length - i ∧ L = [(0, .one (.ow g 0)), (3, .one (.sh [pl ([-q.num, (q.den : Int)]), sg q.num, mg q.num, sg ((q.den : Int)), mg ((q.den : Int)), sg q.num, mg q.num, sg ((q.den : Int)), mg ((q.den : Int))])), (6, .one (.orow r 7 0 O.length)), (46, .one (pts ((hcorners q l)))), (47, .one (.int .i64 (((((hcorners q l)).length : Nat) : Int)))), (48, .one (.int .i64 (((i : Nat) : Int))))] ∧ B = [.row r 166 7 (O.map ofCt), .blk g 215 [c0, c1, c2, c3, c4, c5, c6, c7, c8, c9, c10, c11, pts l, pts ((hcorners q l))]]) (m := _) ⟨0, rc, (orders q (sortP q l)), Nat.zero_le _, (List.append_nil _).symm, rfl, rfl, rfl⟩ ?_
    rintro m L B ⟨i, r, O, hp0, hp1, hm, rfl, rfl⟩
    by_cases hlt : i < (hcorners q l).length
    · obtain ⟨a, ha⟩ : ∃ a, (hcorners q l)[i]? = some a := ⟨_, List.getElem?_eq_getElem hlt⟩
      have hmod : (i + 1) % (hcorners q l).length < (hcorners q l).length := Nat.mod_lt _ (by omega)
      obtain ⟨b, hb⟩ : ∃ b, (hcorners q l)[(i + 1) % (hcorners q l).length]? = some b := ⟨_, List.getElem?_eq_getElem hmod⟩
      have hag := hgc a (List.mem_of_getElem? ha)
      have hbg := hgc b (List.mem_of_getElem? hb)
      have hol : O.length ≤ 1000 + i * 1000 := by rw [hp1, List.length_append, orders_len, sortP_len]; have := edgesK_len q (hcorners q l) l i; have : i * l.length ≤ i * 1000 := Nat.mul_le_mul_left _ hn; omega
      have hi2 : i * 1000 ≤ 2000 * 1000 := Nat.mul_le_mul_right _ (by omega)
      refine ac_seq ?_
      refine ac_reg ?_
      refine w_ (p_cmp rfl rfl rfl rfl) ?_
      refine aw_nil ?_
      refine ac_seq ?_
      refine ac_t rfl (decide_eq_true (by omega)) ?_
      refine ac_skip ?_
      refine ac_seq ?_
      refine ac_block ?_
      refine ac_seq ?_
      refine ac_reg ?_
      refine w_ (p_move rfl rfl) ?_
      refine w_ (p_index (i) Tryz.runUnderlying22 Tryz.sizeOf76 rfl rfl (rfl) (map_get ha) rfl rfl) ?_
      refine w_ (p_loadSh Tryz.isAgg76 Tryz.sizeOf76 rfl rfl rfl rfl) ?_
      refine a_alloc Tryz.zeroValue76 rfl rfl fun g1 => ?_
      refine w_ (p_assign rfl rfl) ?_
      refine a_storeOw 0 Tryz.sizeOf76 rfl rfl rfl rfl rfl rfl rfl ?_
      refine aw_nil ?_
      refine ac_seq ?_
      refine ac_drawA mixed_ 15 [53, 54, 55, 56, 57, 58, 59, 60, 61, 62, 63, 64, 65, 66, 9] [[], [0], [1], [2], [], [4], [], [6], [7], [8], [9], [5, 10], [3, 11], [12], []] [.one (.ow g 0), .one (.ow g 0), .one (.ow g 13), .one (pts ((hcorners q l))), .one (.int .i64 (((i : Nat) : Int))), .one (.int .i64 (((i + 1 : Nat) : Int))), .one (.ow g 0), .one (.ow g 0), .one (.ow g 13), .one (pts ((hcorners q l))), .one (.int .i64 (((((hcorners q l)).length : Nat) : Int))), .one (.int .i64 ((((i + 1) % (hcorners q l).length : Nat) : Int))), .one (.sh [pl b.c.x, pl b.c.y, sg b.c.d, mg b.c.d, .int .i64 b.id]), .agg [pl b.c.x, pl b.c.y, sg b.c.d, mg b.c.d, .int .i64 b.id], .un] [(14, 76, [.slice none 0 0, .slice none 0 0, .bool false, .slice none 0 0, .int .i64 0])] [[.nils, .nils, .bool false, .nils, .int .i64 0]] rfl rfl rfl (by decide) ⟨rfl, trivial⟩ rfl ⟨p_move rfl rfl, p_nilCheck rfl rfl rfl, p_fieldOw fa_215_2 rfl rfl, p_loadOw 2 Tryz.isAgg22 Tryz.sizeOf22 rfl rfl rfl rfl rfl, p_move rfl rfl, p_add (r := ((i + 1 : Nat) : Int)) rfl rfl (i64_is (by omega) (by omega)) rfl, p_move rfl rfl, p_nilCheck rfl rfl rfl, p_fieldOw fa_215_2 rfl rfl, p_loadOw 2 Tryz.isAgg22 Tryz.sizeOf22 rfl rfl rfl rfl rfl, p_len (m := ((hcorners q l)).length) Tryz.runUnderlying22 rfl (rlen_pts _) rfl, p_rem (r := (((i + 1) % (hcorners q l).length : Nat) : Int)) rfl rfl (by omega) (by rw [show Int.tmod ((i + 1 : Nat) : Int) (((hcorners q l).length : Nat) : Int) = (((i + 1) % (hcorners q l).length : Nat) : Int) from rfl] <;> exact wrap64_of (by omega) (by omega)) rfl, p_index (((i + 1) % (hcorners q l).length)) Tryz.runUnderlying22 Tryz.sizeOf76 rfl rfl (rfl) (map_get hb) rfl rfl, p_loadSh Tryz.isAgg76 Tryz.sizeOf76 rfl rfl rfl rfl, al_alloc Tryz.zeroValue76 rfl, trivial⟩ fun g2 => ⟨_, _, rfl, rfl, ?_⟩
      refine a_storeOw 0 Tryz.sizeOf76 rfl rfl rfl rfl rfl rfl rfl ?_
      refine aw_nil ?_
      refine ac_seq ?_
      refine ac_reg ?_
      refine w_ (p_move rfl rfl) ?_
      refine w_ (p_nilCheck rfl rfl rfl) ?_
      refine w_ (p_fieldOw fa_215_1 rfl rfl) ?_
      refine w_ (p_loadOw 3 Tryz.isAgg106 Tryz.sizeOf106 rfl rfl rfl rfl rfl) ?_
      refine w_ (p_call Tryz.func197 rfl rfl rfl rfl (d_crowd_List) rfl) ?_
      refine w_ (p_len (m := l.length) Tryz.runUnderlying22 rfl (rlen_pts _) rfl) ?_
      refine w_ (p_move rfl rfl) ?_
      refine aw_nil ?_
      refine ac_block ?_
      refine ac_pick [0, 3, 8, 9, 46, 47, 48, 71, 72, 6, 73] rfl ?_
      refine ac_front 3 rfl ?_
      refine ac_front 1 rfl ?_
      refine ac_front 2 rfl ?_
      refine ac_front 3 rfl ?_
      refine ac_loop (fun m L B => ∃ j r2 O2, j ≤ l.length ∧ O2 = O ++ edgeC q a b (l.take j) ∧ O2.length ≤ O.length + j ∧ m = l.length - j ∧ L = [(0, .one (.ow g 0)), (3, .one (.sh [pl ([-q.num, (q.den : Int)]), sg q.num, mg q.num, sg ((q.den : Int)), mg ((q.den : Int)), sg q.num, mg q.num, sg ((q.den : Int)), mg ((q.den : Int))])), (8, .one (.ow g1 0)), (9, .one (.ow ((g2 14)) 0)), (46, .one (pts ((hcorners q l)))), (47, .one (.int .i64 (((((hcorners q l)).length : Nat) : Int)))), (48, .one (.int .i64 (((i : Nat) : Int)))), (71, .one (pts l)), (72, .one (.int .i64 (((l.length : Nat) : Int)))), (6, .one (.orow r2 7 0 O2.length)), (73, .one (.int .i64 (((j : Nat) : Int))))] ∧ B = [.row r2 166 7 (O2.map ofCt), .blk g1 76 [pl a.c.x, pl a.c.y, sg a.c.d, mg a.c.d, .int .i64 a.id], .blk (g2 14) 76 [pl b.c.x, pl b.c.y, sg b.c.d, mg b.c.d, .int .i64 b.id], .blk g 215 [c0, c1, c2, c3, c4, c5, c6, c7, c8, c9, c10, c11, pts l, pts ((hcorners q l))]]) (m := _) ⟨0, r, O, Nat.zero_le _, (List.append_nil _).symm, Nat.le_refl _, rfl, rfl, rfl⟩ ?_
      rintro m L B ⟨j, r2, O2, hq0, hq1, hq2, hm, rfl, rfl⟩
      by_cases h2 : j < l.length
      · obtain ⟨c, hc⟩ : ∃ c, l[j]? = some c := ⟨_, List.getElem?_eq_getElem h2⟩
        have hcg := hl c (List.mem_of_getElem? hc)
        by_cases h4 : c.id = a.id
        · have haw : away a b c = false := by simp [away, h4]
          refine ac_seq ?_
          refine ac_reg ?_
          refine w_ (p_cmp rfl rfl rfl rfl) ?_
          refine aw_nil ?_
          refine ac_seq ?_
          refine ac_t rfl (decide_eq_true (by omega)) ?_
          refine ac_skip ?_
          refine ac_seq ?_
          refine ac_block ?_
          refine ac_seq ?_
          refine ac_reg ?_
          refine w_ (p_index (j) Tryz.runUnderlying22 Tryz.sizeOf76 rfl rfl (rfl) (map_get hc) rfl rfl) ?_
          refine w_ (p_loadSh Tryz.isAgg76 Tryz.sizeOf76 rfl rfl rfl rfl) ?_
          refine a_alloc Tryz.zeroValue76 rfl rfl fun g3 => ?_
          refine a_storeOw 0 Tryz.sizeOf76 rfl rfl rfl rfl rfl rfl rfl ?_
          refine aw_nil ?_
          refine ac_seq ?_
          refine ac_reg ?_
          refine w_ (p_fieldOw fa_76_1 rfl rfl) ?_
          refine w_ (p_loadOw 0 Tryz.isAgg3 Tryz.sizeOf3 rfl rfl rfl rfl rfl) ?_
          refine w_ (p_fieldOw fa_76_1 rfl rfl) ?_
          refine w_ (p_loadOw 2 Tryz.isAgg3 Tryz.sizeOf3 rfl rfl rfl rfl rfl) ?_
          refine w_ (p_cmp rfl rfl rfl rfl) ?_
          refine w_ (p_move rfl rfl) ?_
          refine w_ (p_gskip rfl rfl (decide_eq_false (fun h => h h4)) rfl) ?_
          refine w_ (p_gskip rfl rfl (decide_eq_false (fun h => h h4)) rfl) ?_
          refine w_ (p_gskip rfl rfl (decide_eq_false (fun h => h h4)) rfl) ?_
          refine w_ (p_gskip rfl rfl (decide_eq_false (fun h => h h4)) rfl) ?_
          refine w_ (p_gskip rfl rfl (decide_eq_false (fun h => h h4)) rfl) ?_
          refine w_ (p_pickF rfl (decide_eq_false (fun h => h h4)) rfl rfl) ?_
          refine aw_nil ?_
          refine ac_f rfl (rfl) ?_
          refine ac_skip ?_
          refine ac_reg ?_
          refine w_ (p_add (r := ((j + 1 : Nat) : Int)) rfl rfl (i64_is (by omega) (by omega)) rfl) ?_
          refine w_ (p_move rfl rfl) ?_
          refine aw_pick [0, 3, 8, 9, 46, 47, 48, 71, 72, 6, 73] rfl ?_
          refine aw_drop 0 rfl ?_
          refine aw_nil ?_
          refine ⟨_, ?_, j + 1, r2, O2, by omega, by rw [take_snoc hc, edgeC_f haw]; exact hq1, by omega, rfl, rfl, rfl⟩
          omega
        · by_cases h5 : c.id = b.id
          · have haw : away a b c = false := by simp [away, h5]
            refine ac_seq ?_
            refine ac_reg ?_
            refine w_ (p_cmp rfl rfl rfl rfl) ?_
            refine aw_nil ?_
            refine ac_seq ?_
            refine ac_t rfl (decide_eq_true (by omega)) ?_
            refine ac_skip ?_
            refine ac_seq ?_
            refine ac_block ?_
            refine ac_seq ?_
            refine ac_reg ?_
            refine w_ (p_index (j) Tryz.runUnderlying22 Tryz.sizeOf76 rfl rfl (rfl) (map_get hc) rfl rfl) ?_
            refine w_ (p_loadSh Tryz.isAgg76 Tryz.sizeOf76 rfl rfl rfl rfl) ?_
            refine a_alloc Tryz.zeroValue76 rfl rfl fun g4 => ?_
            refine a_storeOw 0 Tryz.sizeOf76 rfl rfl rfl rfl rfl rfl rfl ?_
            refine aw_nil ?_
            refine ac_seq ?_
            refine ac_reg ?_
            refine w_ (p_fieldOw fa_76_1 rfl rfl) ?_
            refine w_ (p_loadOw 0 Tryz.isAgg3 Tryz.sizeOf3 rfl rfl rfl rfl rfl) ?_
            refine w_ (p_fieldOw fa_76_1 rfl rfl) ?_
            refine w_ (p_loadOw 2 Tryz.isAgg3 Tryz.sizeOf3 rfl rfl rfl rfl rfl) ?_
            refine w_ (p_cmp rfl rfl rfl rfl) ?_
            refine w_ (p_move rfl rfl) ?_
            refine w_ ((p_grun rfl rfl (decide_eq_true h4) (p_fieldOw fa_76_1 rfl rfl))) ?_
            refine w_ ((p_grun rfl rfl (decide_eq_true h4) (p_loadOw 0 Tryz.isAgg3 Tryz.sizeOf3 rfl rfl rfl rfl rfl))) ?_
            refine w_ ((p_grun rfl rfl (decide_eq_true h4) (p_fieldOw fa_76_1 rfl rfl))) ?_
            refine w_ ((p_grun rfl rfl (decide_eq_true h4) (p_loadOw 3 Tryz.isAgg3 Tryz.sizeOf3 rfl rfl rfl rfl rfl))) ?_
            refine w_ ((p_grun rfl rfl (decide_eq_true h4) (p_cmp rfl rfl rfl rfl))) ?_
            refine w_ (p_pickT rfl (decide_eq_true h4) rfl rfl) ?_
            refine aw_nil ?_
            refine ac_f rfl (decide_eq_false (fun h => h h5)) ?_
            refine ac_skip ?_
            refine ac_reg ?_
            refine w_ (p_add (r := ((j + 1 : Nat) : Int)) rfl rfl (i64_is (by omega) (by omega)) rfl) ?_
            refine w_ (p_move rfl rfl) ?_
            refine aw_pick [0, 3, 8, 9, 46, 47, 48, 71, 72, 6, 73] rfl ?_
            refine aw_drop 0 rfl ?_
            refine aw_nil ?_
            refine ⟨_, ?_, j + 1, r2, O2, by omega, by rw [take_snoc hc, edgeC_f haw]; exact hq1, by omega, rfl, rfl, rfl⟩
            omega
          · have haw : away a b c = true := by simp [away, h4, h5]
            refine ac_seq ?_
            refine ac_reg ?_
            refine w_ (p_cmp rfl rfl rfl rfl) ?_
            refine aw_nil ?_
            refine ac_seq ?_
            refine ac_t rfl (decide_eq_true (by omega)) ?_
            refine ac_skip ?_
            refine ac_seq ?_
            refine ac_block ?_
            refine ac_seq ?_
            refine ac_reg ?_
            refine w_ (p_index (j) Tryz.runUnderlying22 Tryz.sizeOf76 rfl rfl (rfl) (map_get hc) rfl rfl) ?_
            refine w_ (p_loadSh Tryz.isAgg76 Tryz.sizeOf76 rfl rfl rfl rfl) ?_
            refine a_alloc Tryz.zeroValue76 rfl rfl fun g5 => ?_
            refine a_storeOw 0 Tryz.sizeOf76 rfl rfl rfl rfl rfl rfl rfl ?_
            refine aw_nil ?_
            refine ac_seq ?_
            refine ac_reg ?_
            refine w_ (p_fieldOw fa_76_1 rfl rfl) ?_
            refine w_ (p_loadOw 0 Tryz.isAgg3 Tryz.sizeOf3 rfl rfl rfl rfl rfl) ?_
            refine w_ (p_fieldOw fa_76_1 rfl rfl) ?_
            refine w_ (p_loadOw 2 Tryz.isAgg3 Tryz.sizeOf3 rfl rfl rfl rfl rfl) ?_
            refine w_ (p_cmp rfl rfl rfl rfl) ?_
            refine w_ (p_move rfl rfl) ?_
            refine w_ ((p_grun rfl rfl (decide_eq_true h4) (p_fieldOw fa_76_1 rfl rfl))) ?_
            refine w_ ((p_grun rfl rfl (decide_eq_true h4) (p_loadOw 0 Tryz.isAgg3 Tryz.sizeOf3 rfl rfl rfl rfl rfl))) ?_
            refine w_ ((p_grun rfl rfl (decide_eq_true h4) (p_fieldOw fa_76_1 rfl rfl))) ?_
            refine w_ ((p_grun rfl rfl (decide_eq_true h4) (p_loadOw 3 Tryz.isAgg3 Tryz.sizeOf3 rfl rfl rfl rfl rfl))) ?_
            refine w_ ((p_grun rfl rfl (decide_eq_true h4) (p_cmp rfl rfl rfl rfl))) ?_
            refine w_ (p_pickT rfl (decide_eq_true h4) rfl rfl) ?_
            refine aw_nil ?_
            refine ac_t rfl (decide_eq_true h5) ?_
            refine ac_seq ?_
            refine ac_reg ?_
            refine w_ (p_loadSh Tryz.isAgg59 Tryz.sizeOf59 rfl rfl rfl rfl) ?_
            refine w_ (p_loadOw 2 Tryz.isAgg76 Tryz.sizeOf76 rfl rfl rfl rfl rfl) ?_
            refine w_ (p_loadOw 3 Tryz.isAgg76 Tryz.sizeOf76 rfl rfl rfl rfl rfl) ?_
            refine w_ (p_loadOw 0 Tryz.isAgg76 Tryz.sizeOf76 rfl rfl rfl rfl rfl) ?_
            refine w_ (p_lit Tryz.runUnderlying22 Tryz.sizeOf76 Tryz.zeroValue76 rfl rfl rfl rfl rfl rfl rfl rfl rfl rfl) ?_
            refine w_ (p_call Tryz.func201 rfl rfl rfl rfl (d_cert_Orient (hag.1) (hbg.1) (hcg.1) (hag.2) (hbg.2) (hcg.2) (hq)) rfl) ?_
            refine w_ (p_move rfl rfl) ?_
            refine w_ (p_extract rfl rfl rfl) ?_
            refine w_ (p_extract rfl rfl rfl) ?_
            refine a_alloc Tryz.zeroValue166 rfl rfl fun g6 => ?_
            refine a_storeOw 0 Tryz.sizeOf166 rfl rfl rfl rfl rfl rfl rfl ?_
            refine w_ (p_assign rfl rfl) ?_
            refine aw_nil ?_
            refine ac_reg ?_
            refine w_ (p_move rfl rfl) ?_
            refine w_ (p_loadOw 0 Tryz.isAgg166 Tryz.sizeOf166 rfl rfl rfl rfl rfl) ?_
            refine w_ (p_lit Tryz.runUnderlying48 Tryz.sizeOf166 Tryz.zeroValue166 rfl rfl rfl rfl rfl rfl rfl rfl rfl rfl) ?_
            refine a_append (ls2 := ((O2 ++ [mkOrient q a b c]).map ofCt)) (m2 := (O2 ++ [mkOrient q a b c]).length) 2 Tryz.runUnderlying48 Tryz.runUnderlying48 Tryz.typeInfo166 rfl rfl Tryz.sizeOf166 Tryz.zeroValue166 rfl rfl rfl rfl rfl rfl rfl (by rw [List.length_map]; exact Nat.le_refl _) (one_w rfl) (one_f rfl) (by show _ + 1 < _; omega) (by rw [List.take_of_length_le (by rw [List.length_map]; exact Nat.le_refl _)]; exact snoc_map ofCt _ _) (by rw [List.length_append]; rfl) fun r7 => ?_
            refine w_ (p_assign rfl rfl) ?_
            refine aw_nil ?_
            refine ac_reg ?_
            refine w_ (p_add (r := ((j + 1 : Nat) : Int)) rfl rfl (i64_is (by omega) (by omega)) rfl) ?_
            refine w_ (p_move rfl rfl) ?_
            refine aw_pick [0, 3, 8, 9, 46, 47, 48, 71, 72, 6, 73] rfl ?_
            refine aw_drop 1 rfl ?_
            refine aw_drop 1 rfl ?_
            refine aw_nil ?_
            refine ⟨_, ?_, j + 1, r7, (O2 ++ [mkOrient q a b c]), by omega, by rw [take_snoc hc, edgeC_t haw, hq1, List.append_assoc], by rw [List.length_append]; show O2.length + 1 ≤ _; omega, rfl, rfl, rfl⟩
            omega
      · have hO2 : O2 = O ++ edgeC q a b l := by rw [hq1, List.take_of_length_le (by omega)]
        refine ac_seq ?_
        refine ac_reg ?_
        refine w_ (p_cmp rfl rfl rfl rfl) ?_
        refine aw_nil ?_
        refine ac_seq ?_
        refine ac_f rfl (decide_eq_false (by omega)) ?_
        refine ac_exit ?_
        repeat refine seqQ_exit ?_
        refine blkQ_here ?_
        refine ac_reg ?_
        refine w_ (p_add (r := ((i + 1 : Nat) : Int)) rfl rfl (i64_is (by omega) (by omega)) rfl) ?_
        refine w_ (p_move rfl rfl) ?_
        refine aw_pick [0, 3, 6, 46, 47, 48] rfl ?_
        refine aw_drop 1 rfl ?_
        refine aw_drop 1 rfl ?_
        refine aw_nil ?_
        refine ⟨_, ?_, i + 1, r2, O2, by omega, by rw [hO2, hp1, List.append_assoc, edgesK_next ha hb], rfl, rfl, rfl⟩
        omega
    · have hi : i = (hcorners q l).length := by omega
      have hol : O.length ≤ 1000 + i * 1000 := by rw [hp1, List.length_append, orders_len, sortP_len]; have := edgesK_len q (hcorners q l) l i; have : i * l.length ≤ i * 1000 := Nat.mul_le_mul_left _ hn; omega
      have hi2 : i * 1000 ≤ 2000 * 1000 := Nat.mul_le_mul_right _ (by omega)
      refine ac_seq ?_
      refine ac_reg ?_
      refine w_ (p_cmp rfl rfl rfl rfl) ?_
      refine aw_nil ?_
      refine ac_seq ?_
      refine ac_f rfl (decide_eq_false (by omega)) ?_
      refine ac_exit ?_
      repeat refine seqQ_exit ?_
      refine blkQ_here ?_
      refine ac_seq ?_
      refine ac_reg ?_
      refine w_ (p_move rfl rfl) ?_
      refine w_ (p_assign rfl rfl) ?_
      refine aw_nil ?_
      refine ac_pub (L2 := _) 0 [4] rfl (allAre1 rfl) (by rw [List.length_map]) (by rw [List.length_map]; omega) rfl ?_
      refine ac_slotEq 4 (y := .one (cts (hullC q l))) rfl (by rw [hp1, hi, hullC, if_neg hc2]; rfl) ?_
      refine ac_ret ?_
      exact ⟨_, [], _, rvs_1 Tryz.results133 (rv_tmp rfl rfl), rfl, ⟨rfl, rfl⟩⟩

set_option maxRecDepth 20000 in
theorem d_hull_New {b1 b2 : Bool} {l1 l2 : List Nat} {n d : Int} {zs : List (List LV)} {qs : List Pt} (h1 : IsInt (.bool b1) (u32r l1) n) (h2 : IsInt (.bool b2) (u32r l2) d) (hn : isz n ≤ 4294967295) (hd : isz d ≤ 4294967295) (hq : Qb (ratOf n d)) (hz : IsPts 4294967294 1073741824 zs qs) (hg : GoodP qs) (hl : qs.length ≤ 6) (he : (newL [] qs).2 = 0) : DoesB Tryz.prog 69 [.agg [.bool b1, u32r l1, .bool b2, u32r l2], .one (.row zs)] [] fun R B => ∃ g, R = .tup [.one (.ow g 0), .one (.int .i64 0)] ∧ B = [.blk g 215 [.bool true, pl ([-((ratOf n d)).num, (((ratOf n d)).den : Int)]), sg ((((ratOf n d))).num), mg ((((ratOf n d))).num), sg (((((ratOf n d))).den : Int)), mg (((((ratOf n d))).den : Int)), sg ((((ratOf n d))).num), mg ((((ratOf n d))).num), sg (((((ratOf n d))).den : Int)), mg (((((ratOf n d))).den : Int)), wts ((sortC (hullC ((ratOf n d)) ((newL [] qs).1)))), .int .i64 0, pts ((newL [] qs).1), pts ((hcorners ((ratOf n d)) ((newL [] qs).1)))]] := by
  refine does_ (n := 32) Tryz.func69 rfl Tryz.ntmps69 rfl ?_
  have hgl : GoodP (newL [] qs).1 := fun a ha => hg a ((newL_mem qs [] ha).resolve_right (by simp))
  have hln := newL_len qs
  have hcl := hullC_le ((ratOf n d)) ((newL [] qs).1) (by omega)
  · skip
    refine ac_seq ?_
    refine ac_reg ?_
    refine w_ (p_boxS rfl rfl rfl rfl) ?_
    refine w_ (p_assign rfl rfl) ?_
    refine w_ (p_assign rfl rfl) ?_
    refine aw_nil ?_
    refine ac_seq ?_
    refine ac_reg ?_
    refine w_ (p_move rfl rfl) ?_
    refine w_ (p_call Tryz.func114 rfl rfl rfl rfl (d_crowd_New hz hl) rfl) ?_
    refine w_ (p_move rfl rfl) ?_
    refine w_ (p_extract rfl rfl rfl) ?_
    refine w_ (p_extract rfl rfl rfl) ?_
    refine a_alloc Tryz.zeroValue106 rfl rfl fun g1 => ?_
    refine a_storeOw 0 Tryz.sizeOf106 rfl rfl rfl rfl rfl rfl rfl ?_
    refine w_ (p_assign rfl rfl) ?_
    refine aw_nil ?_
    refine ac_seq ?_
    refine ac_seq ?_
    refine ac_reg ?_
    refine w_ (p_move rfl rfl) ?_
    refine w_ (p_cmp rfl rfl rfl rfl) ?_
    refine aw_nil ?_
    refine ac_f rfl (decide_eq_false (fun h => h he)) ?_
    refine ac_skip ?_
    refine ac_seq ?_
    refine ac_reg ?_
    refine w_ (p_loadOw 0 Tryz.isAgg106 Tryz.sizeOf106 rfl rfl rfl rfl rfl) ?_
    refine w_ (p_build (bd_215) rfl rfl rfl rfl) ?_
    refine a_box rfl rfl rfl fun g2 => ?_
    refine w_ (p_assign rfl rfl) ?_
    refine aw_nil ?_
    refine ac_seq ?_
    refine ac_reg ?_
    refine w_ (p_loadSh Tryz.isAgg57 Tryz.sizeOf57 rfl rfl rfl rfl) ?_
    refine w_ (p_call Tryz.func115 rfl rfl rfl rfl (d_alg_Of h1 h2 hn hd (hq.mono (by omega))) rfl) ?_
    refine a_alloc Tryz.zeroValue59 rfl rfl fun g3 => ?_
    refine a_storeOw 0 Tryz.sizeOf59 rfl rfl rfl rfl rfl rfl rfl ?_
    refine aw_nil ?_
    refine ac_seq ?_
    refine ac_drawM mixed_ 7 [23, 24, 25, 26, 27, 28, 29] [[], [0], [1], [], [], [], [4, 5]] [.one (.ow g2 0), .one (.ow g2 0), .one (.ow g2 0), .agg [pl ([-((ratOf n d)).num, (((ratOf n d)).den : Int)]), sg ((((ratOf n d))).num), mg ((((ratOf n d))).num), sg (((((ratOf n d))).den : Int)), mg (((((ratOf n d))).den : Int)), sg ((((ratOf n d))).num), mg ((((ratOf n d))).num), sg (((((ratOf n d))).den : Int)), mg (((((ratOf n d))).den : Int))], .one (.ow g2 0), .agg [pl ([-((ratOf n d)).num, (((ratOf n d)).den : Int)]), sg ((((ratOf n d))).num), mg ((((ratOf n d))).num), sg (((((ratOf n d))).den : Int)), mg (((((ratOf n d))).den : Int)), sg ((((ratOf n d))).num), mg ((((ratOf n d))).num), sg (((((ratOf n d))).den : Int)), mg (((((ratOf n d))).den : Int))], .un] 6 (fun u B => u = .one (cts ((hullC ((ratOf n d)) ((newL [] qs).1)))) ∧ B = [.blk g2 215 [.bool false, .nils, .bool false, .nils, .bool false, .nils, .bool false, .nils, .bool false, .nils, .nils, .int .i64 0, pts ((newL [] qs).1), pts ((hcorners ((ratOf n d)) ((newL [] qs).1)))], .blk g3 59 [pl ([-((ratOf n d)).num, (((ratOf n d)).den : Int)]), sg ((((ratOf n d))).num), mg ((((ratOf n d))).num), sg (((((ratOf n d))).den : Int)), mg (((((ratOf n d))).den : Int)), sg ((((ratOf n d))).num), mg ((((ratOf n d))).num), sg (((((ratOf n d))).den : Int)), mg (((((ratOf n d))).den : Int))], .blk g1 106 [pts ((newL [] qs).1)]]) rfl rfl rfl rfl ⟨p_move rfl rfl, p_nilCheck rfl rfl rfl, p_fieldOw fa_215_0 rfl rfl, p_loadOw 0 Tryz.isAgg59 Tryz.sizeOf59 rfl rfl rfl rfl rfl, p_move rfl rfl, p_loadOw 0 Tryz.isAgg59 Tryz.sizeOf59 rfl rfl rfl rfl rfl, ?_, trivial⟩ ?_ ?_
    · refine am_of_aw fun N k_ => ?_
      refine aw_front 1 rfl ?_
      refine a_calls (Bin := [.blk g2 215 [.bool false, .nils, .bool false, .nils, .bool false, .nils, .bool false, .nils, .bool false, .nils, .nils, .int .i64 0, pts ((newL [] qs).1), .nils]]) Tryz.func133 rfl rfl rfl rfl (d_hull_build hq hgl (by omega)) rfl fun r_ B_ hr_ => ?_
      obtain ⟨rfl, rfl⟩ := hr_
      exact aw_nil (k_ _ _ ⟨rfl, rfl⟩)
    · rintro u_ B_ ⟨rfl, rfl⟩
      exact ⟨p_move rfl rfl, p_nilCheck rfl rfl rfl, p_fieldOw fa_215_0 rfl rfl, p_loadOw 1 Tryz.isAgg59 Tryz.sizeOf59 rfl rfl rfl rfl rfl, p_move rfl rfl, p_loadOw 1 Tryz.isAgg59 Tryz.sizeOf59 rfl rfl rfl rfl rfl, trivial, trivial⟩
    · rintro u_ B_ ⟨rfl, rfl⟩
      refine ⟨_, rfl, ?_⟩
      refine aw_blk (ys := [.bool false, .row ([]), .bool false, .row ([]), .bool false, .row ([]), .bool false, .row ([]), .bool false, .row ([]), wts ([]), .int .i64 0, pts ((newL [] qs).1), pts ((hcorners ((ratOf n d)) ((newL [] qs).1)))]) 0 rfl rfl rfl ?_
      refine a_calls (Bin := [.blk g2 215 [.bool false, .row ([]), .bool false, .row ([]), .bool false, .row ([]), .bool false, .row ([]), .bool false, .row ([]), wts ([]), .int .i64 0, pts ((newL [] qs).1), pts ((hcorners ((ratOf n d)) ((newL [] qs).1)))]]) Tryz.func116 rfl rfl rfl rfl (d_kin_BeginF (ws := []) (by simp) (hullC_pb _ hgl) (by omega) (hq.mono (by omega))) rfl fun r_ B_ hr_ => ?_
      obtain ⟨rfl, rfl⟩ := hr_
      refine aw_nil ?_
      refine ac_seq ?_
      refine ac_reg ?_
      refine w_ (p_move rfl rfl) ?_
      refine w_ (p_assign rfl rfl) ?_
      refine w_ (p_assign rfl rfl) ?_
      refine aw_nil ?_
      refine ac_ret ?_
      exact ⟨_, [1, 1], _, rvs_2 Tryz.results69 (rv_tmp rfl rfl) (rv_tmp rfl rfl), rfl, _, rfl, rfl⟩

theorem d_hull_NewE {b1 b2 : Bool} {l1 l2 : List Nat} {n d : Int} {zs : List (List LV)} {qs : List Pt} (h1 : IsInt (.bool b1) (u32r l1) n) (h2 : IsInt (.bool b2) (u32r l2) d) (hn : isz n ≤ 4294967295) (hd : isz d ≤ 4294967295) (hq : Qb (ratOf n d)) (hz : IsPts 4294967294 1073741824 zs qs) (hl : qs.length ≤ 6) (he : (newL [] qs).2 ≠ 0) : Does Tryz.prog 69 [.agg [.bool b1, u32r l1, .bool b2, u32r l2], .one (.row zs)] (.tup [.one (.nilp), .one (.int .i64 ((newL [] qs).2))]) := by
  refine does_ (n := 32) Tryz.func69 rfl Tryz.ntmps69 rfl ?_
  refine ac_seq ?_
  refine ac_reg ?_
  refine w_ (p_boxS rfl rfl rfl rfl) ?_
  refine w_ (p_assign rfl rfl) ?_
  refine w_ (p_assign rfl rfl) ?_
  refine aw_nil ?_
  refine ac_seq ?_
  refine ac_reg ?_
  refine w_ (p_move rfl rfl) ?_
  refine w_ (p_call Tryz.func114 rfl rfl rfl rfl (d_crowd_New hz hl) rfl) ?_
  refine w_ (p_move rfl rfl) ?_
  refine w_ (p_extract rfl rfl rfl) ?_
  refine w_ (p_extract rfl rfl rfl) ?_
  refine a_alloc Tryz.zeroValue106 rfl rfl fun g1 => ?_
  refine a_storeOw 0 Tryz.sizeOf106 rfl rfl rfl rfl rfl rfl rfl ?_
  refine w_ (p_assign rfl rfl) ?_
  refine aw_nil ?_
  refine ac_seq ?_
  refine ac_seq ?_
  refine ac_reg ?_
  refine w_ (p_move rfl rfl) ?_
  refine w_ (p_cmp rfl rfl rfl rfl) ?_
  refine aw_nil ?_
  refine ac_t rfl (decide_eq_true he) ?_
  refine ac_seq ?_
  refine ac_reg ?_
  refine w_ (p_move rfl rfl) ?_
  refine w_ (p_assign rfl rfl) ?_
  refine w_ (p_assign rfl rfl) ?_
  refine aw_nil ?_
  refine ac_ret ?_
  exact retB_2 Tryz.results69 (rv_tmp rfl rfl) (rv_tmp rfl rfl) (rfl)

theorem d_hull_NewF {b1 b2 : Bool} {l1 l2 : List Nat} {n d : Int} {zs : List (List LV)} {qs : List Pt} (h1 : IsInt (.bool b1) (u32r l1) n) (h2 : IsInt (.bool b2) (u32r l2) d) (hn : isz n ≤ 4294967295) (hd : isz d ≤ 4294967295) (hq : Qb (ratOf n d)) (hz : IsPts 4294967294 1073741824 zs qs) (hl : 6 < qs.length) : Does Tryz.prog 69 [.agg [.bool b1, u32r l1, .bool b2, u32r l2], .one (.row zs)] (.tup [.one (.nilp), .one (.int .i64 9)]) := by
  refine does_ (n := 32) Tryz.func69 rfl Tryz.ntmps69 rfl ?_
  refine ac_seq ?_
  refine ac_reg ?_
  refine w_ (p_boxS rfl rfl rfl rfl) ?_
  refine w_ (p_assign rfl rfl) ?_
  refine w_ (p_assign rfl rfl) ?_
  refine aw_nil ?_
  refine ac_seq ?_
  refine ac_reg ?_
  refine w_ (p_move rfl rfl) ?_
  refine w_ (p_call Tryz.func114 rfl rfl rfl rfl (d_crowd_NewFull hz hl) rfl) ?_
  refine w_ (p_move rfl rfl) ?_
  refine w_ (p_extract rfl rfl rfl) ?_
  refine w_ (p_extract rfl rfl rfl) ?_
  refine a_alloc Tryz.zeroValue106 rfl rfl fun g1 => ?_
  refine a_storeOw 0 Tryz.sizeOf106 rfl rfl rfl rfl rfl rfl rfl ?_
  refine w_ (p_assign rfl rfl) ?_
  refine aw_nil ?_
  refine ac_seq ?_
  refine ac_seq ?_
  refine ac_reg ?_
  refine w_ (p_move rfl rfl) ?_
  refine w_ (p_cmp (b := true) rfl rfl rfl rfl) ?_
  refine aw_nil ?_
  refine ac_t rfl (rfl) ?_
  refine ac_seq ?_
  refine ac_reg ?_
  refine w_ (p_move rfl rfl) ?_
  refine w_ (p_assign rfl rfl) ?_
  refine w_ (p_assign rfl rfl) ?_
  refine aw_nil ?_
  refine ac_ret ?_
  exact retB_2 Tryz.results69 (rv_tmp rfl rfl) (rv_tmp rfl rfl) (rfl)

set_option maxRecDepth 20000 in
theorem d_hull_with {g : Nat} {ev : Int} {ws : List Ct} {q : Rat} {y0 y1 : LV} {l : List Pt} (hq : Qb q) (hg : GoodP l) (hl : l.length ≤ 10) (hw : ws.length ≤ 1000000) : DoesB Tryz.prog 134 [.one (.ow g 0), .agg [pts l], .one (.int .i64 0)] [.blk g 215 [.bool true, pl ([-q.num, (q.den : Int)]), sg q.num, mg q.num, sg ((q.den : Int)), mg ((q.den : Int)), sg q.num, mg q.num, sg ((q.den : Int)), mg ((q.den : Int)), wts ws, .int .i64 ev, y0, y1]] fun r B => r = .one (.int .i64 0) ∧ B = [.blk g 215 [.bool true, pl ([-q.num, (q.den : Int)]), sg q.num, mg q.num, sg ((q.den : Int)), mg ((q.den : Int)), sg q.num, mg q.num, sg ((q.den : Int)), mg ((q.den : Int)), wts ((sortC (hullC q l))), .int .i64 ev, pts l, pts ((hcorners q l))]] := by
  refine does_ (n := 27) Tryz.func134 rfl Tryz.ntmps134 rfl ?_
  have hcl := hullC_le q l (by omega)
  · skip
    refine ac_seq ?_
    refine ac_reg ?_
    refine w_ (p_boxS rfl rfl rfl rfl) ?_
    refine w_ (p_assign rfl rfl) ?_
    refine aw_nil ?_
    refine ac_seq ?_
    refine ac_seq ?_
    refine ac_reg ?_
    refine w_ (p_move rfl rfl) ?_
    refine w_ (p_cmp (b := false) rfl rfl rfl rfl) ?_
    refine aw_nil ?_
    refine ac_f rfl (rfl) ?_
    refine ac_skip ?_
    refine ac_seq ?_
    refine ac_reg ?_
    refine w_ (p_move rfl rfl) ?_
    refine w_ (p_loadSh Tryz.isAgg106 Tryz.sizeOf106 rfl rfl rfl rfl) ?_
    refine w_ (p_nilCheck rfl rfl rfl) ?_
    refine w_ (p_fieldOw fa_215_1 rfl rfl) ?_
    refine a_storeOw 0 Tryz.sizeOf106 rfl rfl rfl rfl rfl rfl rfl ?_
    refine aw_nil ?_
    refine ac_seq ?_
    refine ac_reg ?_
    refine w_ (p_move rfl rfl) ?_
    refine w_ (p_nilCheck rfl rfl rfl) ?_
    refine w_ (p_fieldOw fa_215_0 rfl rfl) ?_
    refine a_calls (Bin := [.blk g 215 [.bool true, pl ([-q.num, (q.den : Int)]), sg q.num, mg q.num, sg ((q.den : Int)), mg ((q.den : Int)), sg q.num, mg q.num, sg ((q.den : Int)), mg ((q.den : Int)), wts ws, .int .i64 ev, pts l, y1]]) Tryz.func202 rfl rfl rfl rfl (d_kin_Now (hq.mono (by omega))) rfl fun r_ B_ hr_ => ?_
    obtain ⟨rfl, rfl⟩ := hr_
    refine a_alloc Tryz.zeroValue59 rfl rfl fun g1 => ?_
    refine a_storeOw 0 Tryz.sizeOf59 rfl rfl rfl rfl rfl rfl rfl ?_
    refine aw_nil ?_
    refine ac_seq ?_
    refine ac_drawM mixed_ 7 [19, 20, 21, 22, 23, 24, 25] [[], [0], [1], [], [], [], [4, 5]] [.one (.ow g 0), .one (.ow g 0), .one (.ow g 0), .agg [pl ([-q.num, (q.den : Int)]), sg q.num, mg q.num, sg ((q.den : Int)), mg ((q.den : Int)), sg q.num, mg q.num, sg ((q.den : Int)), mg ((q.den : Int))], .one (.ow g 0), .agg [pl ([-q.num, (q.den : Int)]), sg q.num, mg q.num, sg ((q.den : Int)), mg ((q.den : Int)), sg q.num, mg q.num, sg ((q.den : Int)), mg ((q.den : Int))], .un] 6 (fun u B => u = .one (cts ((hullC q l))) ∧ B = [.blk g 215 [.bool true, pl ([-q.num, (q.den : Int)]), sg q.num, mg q.num, sg ((q.den : Int)), mg ((q.den : Int)), sg q.num, mg q.num, sg ((q.den : Int)), mg ((q.den : Int)), wts ws, .int .i64 ev, pts l, pts ((hcorners q l))], .blk g1 59 [pl ([-q.num, (q.den : Int)]), sg q.num, mg q.num, sg ((q.den : Int)), mg ((q.den : Int)), sg q.num, mg q.num, sg ((q.den : Int)), mg ((q.den : Int))]]) rfl rfl rfl rfl ⟨p_move rfl rfl, p_nilCheck rfl rfl rfl, p_fieldOw fa_215_0 rfl rfl, p_loadOw 0 Tryz.isAgg59 Tryz.sizeOf59 rfl rfl rfl rfl rfl, p_move rfl rfl, p_loadOw 0 Tryz.isAgg59 Tryz.sizeOf59 rfl rfl rfl rfl rfl, ?_, trivial⟩ ?_ ?_
    · refine am_of_aw fun N k_ => ?_
      refine aw_front 1 rfl ?_
      refine a_calls (Bin := [.blk g 215 [.bool true, pl ([-q.num, (q.den : Int)]), sg q.num, mg q.num, sg ((q.den : Int)), mg ((q.den : Int)), sg q.num, mg q.num, sg ((q.den : Int)), mg ((q.den : Int)), wts ws, .int .i64 ev, pts l, y1]]) Tryz.func133 rfl rfl rfl rfl (d_hull_build hq hg (by omega)) rfl fun r_ B_ hr_ => ?_
      obtain ⟨rfl, rfl⟩ := hr_
      exact aw_nil (k_ _ _ ⟨rfl, rfl⟩)
    · rintro u_ B_ ⟨rfl, rfl⟩
      exact ⟨p_move rfl rfl, p_nilCheck rfl rfl rfl, p_fieldOw fa_215_0 rfl rfl, p_loadOw 1 Tryz.isAgg59 Tryz.sizeOf59 rfl rfl rfl rfl rfl, p_move rfl rfl, p_loadOw 1 Tryz.isAgg59 Tryz.sizeOf59 rfl rfl rfl rfl rfl, trivial, trivial⟩
    · rintro u_ B_ ⟨rfl, rfl⟩
      refine ⟨_, rfl, ?_⟩
      refine a_calls (Bin := [.blk g 215 [.bool true, pl ([-q.num, (q.den : Int)]), sg q.num, mg q.num, sg ((q.den : Int)), mg ((q.den : Int)), sg q.num, mg q.num, sg ((q.den : Int)), mg ((q.den : Int)), wts ws, .int .i64 ev, pts l, pts ((hcorners q l))]]) Tryz.func116 rfl rfl rfl rfl (d_kin_BeginT (hq.mono (by omega)) hw (hullC_pb _ hg) (by omega) (hq.mono (by omega))) rfl fun r_ B_ hr_ => ?_
      obtain ⟨rfl, rfl⟩ := hr_
      refine aw_nil ?_
      refine ac_seq ?_
      refine ac_reg ?_
      refine w_ (p_assign rfl rfl) ?_
      refine aw_nil ?_
      refine ac_ret ?_
      exact ⟨_, [1], _, rvs_1 Tryz.results134 (rv_tmp rfl rfl), rfl, ⟨rfl, rfl⟩⟩

theorem d_hull_withE {g T : Nat} {ys : List LV} {l : List Pt} {e : Int} (he : e ≠ 0) : DoesB Tryz.prog 134 [.one (.ow g 0), .agg [pts l], .one (.int .i64 e)] [.blk g T (ys)] fun r B => r = .one (.int .i64 e) ∧ B = [.blk g T (ys)] := by
  refine does_ (n := 27) Tryz.func134 rfl Tryz.ntmps134 rfl ?_
  refine ac_seq ?_
  refine ac_reg ?_
  refine w_ (p_boxS rfl rfl rfl rfl) ?_
  refine w_ (p_assign rfl rfl) ?_
  refine aw_nil ?_
  refine ac_seq ?_
  refine ac_seq ?_
  refine ac_reg ?_
  refine w_ (p_move rfl rfl) ?_
  refine w_ (p_cmp rfl rfl rfl rfl) ?_
  refine aw_nil ?_
  refine ac_t rfl (decide_eq_true he) ?_
  refine ac_seq ?_
  refine ac_reg ?_
  refine w_ (p_move rfl rfl) ?_
  refine w_ (p_assign rfl rfl) ?_
  refine aw_nil ?_
  refine ac_ret ?_
  exact ⟨_, [], _, rvs_1 Tryz.results134 (rv_tmp rfl rfl), rfl, ⟨rfl, rfl⟩⟩

set_option maxRecDepth 20000 in
theorem d_hull_Put {g : Nat} {ev : Int} {ws : List Ct} {q : Rat} {y1 : LV} {lx ly : List (List LV)} {px py : List Int} {b : Bool} {ll : List Nat} {d id : Int} {l : List Pt} (hx : IsInts lx px) (hy : IsInts ly py) (hd : IsInt (.bool b) (u32r ll) d) (hk : Cs 4294967294 1073741824 (Crv.mk px py d)) (hq : Qb q) (hg : GoodP l) (hl : l.length ≤ 9) (hw : ws.length ≤ 1000000) (hp : Nml (Pt.mk (Crv.norm (Crv.mk px py d)) id).c ∧ Cb (Pt.mk (Crv.norm (Crv.mk px py d)) id).c) (he : putE l (Pt.mk (Crv.norm (Crv.mk px py d)) id) = 0) : DoesB Tryz.prog 70 [.one (.ow g 0), .agg [.row lx, .row ly, .bool b, u32r ll, .int .i64 id]] [.blk g 215 [.bool true, pl ([-q.num, (q.den : Int)]), sg q.num, mg q.num, sg ((q.den : Int)), mg ((q.den : Int)), sg q.num, mg q.num, sg ((q.den : Int)), mg ((q.den : Int)), wts ws, .int .i64 ev, pts l, y1]] fun r B => r = .one (.int .i64 0) ∧ B = [.blk g 215 [.bool true, pl ([-q.num, (q.den : Int)]), sg q.num, mg q.num, sg ((q.den : Int)), mg ((q.den : Int)), sg q.num, mg q.num, sg ((q.den : Int)), mg ((q.den : Int)), wts ((sortC (hullC q ((put l (Pt.mk (Crv.norm (Crv.mk px py d)) id)))))), .int .i64 ev, pts ((put l (Pt.mk (Crv.norm (Crv.mk px py d)) id))), pts ((hcorners q ((put l (Pt.mk (Crv.norm (Crv.mk px py d)) id)))))]] := by
  refine does_ (n := 15) Tryz.func70 rfl Tryz.ntmps70 rfl ?_
  refine ac_seq ?_
  refine ac_reg ?_
  refine w_ (p_boxS rfl rfl rfl rfl) ?_
  refine w_ (p_assign rfl rfl) ?_
  refine aw_nil ?_
  refine ac_seq ?_
  refine ac_draw mixed_ 9 [5, 6, 7, 8, 9, 10, 11, 12, 13] [[], [], [1], [2], [3], [], [4, 5], [6], [6]] [.one (.ow g 0), .one (.ow g 0), .one (.ow g 0), .one (.ow g 12), .agg [pts l], .agg [.row lx, .row ly, .bool b, u32r ll, .int .i64 id], .tup [.agg [pts ((if putE l (Pt.mk (Crv.norm (Crv.mk px py d)) id) = 0 then put l (Pt.mk (Crv.norm (Crv.mk px py d)) id) else l))], .one (.int .i64 (putE l (Pt.mk (Crv.norm (Crv.mk px py d)) id)))], .agg [pts ((if putE l (Pt.mk (Crv.norm (Crv.mk px py d)) id) = 0 then put l (Pt.mk (Crv.norm (Crv.mk px py d)) id) else l))], .one (.int .i64 (putE l (Pt.mk (Crv.norm (Crv.mk px py d)) id)))] rfl rfl rfl ⟨p_move rfl rfl, p_move rfl rfl, p_nilCheck rfl rfl rfl, p_fieldOw fa_215_1 rfl rfl, p_loadOw 0 Tryz.isAgg106 Tryz.sizeOf106 rfl rfl rfl rfl rfl, p_loadSh Tryz.isAgg76 Tryz.sizeOf76 rfl rfl rfl rfl, p_call Tryz.func119 rfl rfl rfl rfl (d_crowd_Put hx hy hd (hk) (by omega)) rfl, p_extract rfl rfl rfl, p_extract rfl rfl rfl, trivial⟩ rfl ?_
  refine aw_slotEq 12 (y := .agg [pts (put l (Pt.mk (Crv.norm (Crv.mk px py d)) id))]) rfl (by rw [if_pos he]) ?_
  refine aw_slotEq 13 (y := .one (.int .i64 0)) rfl (by rw [he]) ?_
  refine a_calls (Bin := [.blk g 215 [.bool true, pl ([-q.num, (q.den : Int)]), sg q.num, mg q.num, sg ((q.den : Int)), mg ((q.den : Int)), sg q.num, mg q.num, sg ((q.den : Int)), mg ((q.den : Int)), wts ws, .int .i64 ev, pts l, y1]]) Tryz.func134 rfl rfl rfl rfl (d_hull_with hq (fun x hx_ => (put_mem hx_).elim (fun e => e ▸ hp) (hg x)) (by rw [put_len]; omega) hw) rfl fun r_ B_ hr_ => ?_
  obtain ⟨rfl, rfl⟩ := hr_
  refine w_ (p_assign rfl rfl) ?_
  refine aw_nil ?_
  refine ac_ret ?_
  exact ⟨_, [], _, rvs_1 Tryz.results70 (rv_tmp rfl rfl), rfl, ⟨rfl, rfl⟩⟩

set_option maxRecDepth 20000 in
theorem d_hull_PutE {g : Nat} {ev : Int} {ws : List Ct} {q : Rat} {y1 : LV} {lx ly : List (List LV)} {px py : List Int} {b : Bool} {ll : List Nat} {d id : Int} {l : List Pt} (hx : IsInts lx px) (hy : IsInts ly py) (hd : IsInt (.bool b) (u32r ll) d) (hk : Cs 4294967294 1073741824 (Crv.mk px py d)) (hl : l.length ≤ 999) (he : putE l (Pt.mk (Crv.norm (Crv.mk px py d)) id) ≠ 0) : DoesB Tryz.prog 70 [.one (.ow g 0), .agg [.row lx, .row ly, .bool b, u32r ll, .int .i64 id]] [.blk g 215 [.bool true, pl ([-q.num, (q.den : Int)]), sg q.num, mg q.num, sg ((q.den : Int)), mg ((q.den : Int)), sg q.num, mg q.num, sg ((q.den : Int)), mg ((q.den : Int)), wts ws, .int .i64 ev, pts l, y1]] fun r B => r = .one (.int .i64 ((putE l (Pt.mk (Crv.norm (Crv.mk px py d)) id)))) ∧ B = [.blk g 215 [.bool true, pl ([-q.num, (q.den : Int)]), sg q.num, mg q.num, sg ((q.den : Int)), mg ((q.den : Int)), sg q.num, mg q.num, sg ((q.den : Int)), mg ((q.den : Int)), wts ws, .int .i64 ev, pts l, y1]] := by
  refine does_ (n := 15) Tryz.func70 rfl Tryz.ntmps70 rfl ?_
  refine ac_seq ?_
  refine ac_reg ?_
  refine w_ (p_boxS rfl rfl rfl rfl) ?_
  refine w_ (p_assign rfl rfl) ?_
  refine aw_nil ?_
  refine ac_seq ?_
  refine ac_draw mixed_ 9 [5, 6, 7, 8, 9, 10, 11, 12, 13] [[], [], [1], [2], [3], [], [4, 5], [6], [6]] [.one (.ow g 0), .one (.ow g 0), .one (.ow g 0), .one (.ow g 12), .agg [pts l], .agg [.row lx, .row ly, .bool b, u32r ll, .int .i64 id], .tup [.agg [pts ((if putE l (Pt.mk (Crv.norm (Crv.mk px py d)) id) = 0 then put l (Pt.mk (Crv.norm (Crv.mk px py d)) id) else l))], .one (.int .i64 (putE l (Pt.mk (Crv.norm (Crv.mk px py d)) id)))], .agg [pts ((if putE l (Pt.mk (Crv.norm (Crv.mk px py d)) id) = 0 then put l (Pt.mk (Crv.norm (Crv.mk px py d)) id) else l))], .one (.int .i64 (putE l (Pt.mk (Crv.norm (Crv.mk px py d)) id)))] rfl rfl rfl ⟨p_move rfl rfl, p_move rfl rfl, p_nilCheck rfl rfl rfl, p_fieldOw fa_215_1 rfl rfl, p_loadOw 0 Tryz.isAgg106 Tryz.sizeOf106 rfl rfl rfl rfl rfl, p_loadSh Tryz.isAgg76 Tryz.sizeOf76 rfl rfl rfl rfl, p_call Tryz.func119 rfl rfl rfl rfl (d_crowd_Put hx hy hd (hk) (by omega)) rfl, p_extract rfl rfl rfl, p_extract rfl rfl rfl, trivial⟩ rfl ?_
  refine a_calls (Bin := [.blk g 215 [.bool true, pl ([-q.num, (q.den : Int)]), sg q.num, mg q.num, sg ((q.den : Int)), mg ((q.den : Int)), sg q.num, mg q.num, sg ((q.den : Int)), mg ((q.den : Int)), wts ws, .int .i64 ev, pts l, y1]]) Tryz.func134 rfl rfl rfl rfl (d_hull_withE he) rfl fun r_ B_ hr_ => ?_
  obtain ⟨rfl, rfl⟩ := hr_
  refine w_ (p_assign rfl rfl) ?_
  refine aw_nil ?_
  refine ac_ret ?_
  exact ⟨_, [], _, rvs_1 Tryz.results70 (rv_tmp rfl rfl), rfl, ⟨rfl, rfl⟩⟩

set_option maxRecDepth 20000 in
theorem d_hull_Points {g : Nat} {c0 c1 c2 c3 c4 c5 c6 c7 c8 c9 c10 c11 y1 : LV} {l : List Pt} (hok : ∀ p ∈ l, PtOk 4294967294 1073741824 p) (hl : l.length < 1073741824) : DoesB Tryz.prog 71 [.one (.ow g 0)] [.blk g 215 [c0, c1, c2, c3, c4, c5, c6, c7, c8, c9, c10, c11, pts l, y1]] fun r B => r = .one (pts l) ∧ B = [.blk g 215 [c0, c1, c2, c3, c4, c5, c6, c7, c8, c9, c10, c11, pts l, y1]] := by
  refine does_ (n := 8) Tryz.func71 rfl Tryz.ntmps71 rfl ?_
  refine ac_seq ?_
  refine ac_reg ?_
  refine w_ (p_assign rfl rfl) ?_
  refine aw_nil ?_
  refine ac_seq ?_
  refine ac_reg ?_
  refine w_ (p_move rfl rfl) ?_
  refine w_ (p_nilCheck rfl rfl rfl) ?_
  refine w_ (p_fieldOw fa_215_1 rfl rfl) ?_
  refine w_ (p_loadOw 0 Tryz.isAgg106 Tryz.sizeOf106 rfl rfl rfl rfl rfl) ?_
  refine w_ (p_call Tryz.func120 rfl rfl rfl rfl (d_crowd_All (hok) (hl)) rfl) ?_
  refine w_ (p_assign rfl rfl) ?_
  refine aw_nil ?_
  refine ac_ret ?_
  exact ⟨_, [], _, rvs_1 Tryz.results71 (rv_tmp rfl rfl), rfl, ⟨rfl, rfl⟩⟩

set_option maxRecDepth 20000 in
theorem d_hull_Ids {g : Nat} {c0 c1 c2 c3 c4 c5 c6 c7 c8 c9 c10 c11 y0 : LV} {cs : List Pt} (hn : cs.length ≤ 1000) : DoesB Tryz.prog 60 [.one (.ow g 0)] [.blk g 215 [c0, c1, c2, c3, c4, c5, c6, c7, c8, c9, c10, c11, y0, pts cs]] fun r B => r = .one (ids ((cs.map (fun p => p.id)))) ∧ B = [.blk g 215 [c0, c1, c2, c3, c4, c5, c6, c7, c8, c9, c10, c11, y0, pts cs]] := by
  refine does_ (n := 22) Tryz.func60 rfl Tryz.ntmps60 rfl ?_
  refine ac_seq ?_
  refine ac_reg ?_
  refine w_ (p_assign rfl rfl) ?_
  refine aw_nil ?_
  refine ac_seq ?_
  refine ac_reg ?_
  refine w_ (p_assign rfl rfl) ?_
  refine aw_nil ?_
  refine ac_seq ?_
  refine ac_seq ?_
  refine ac_reg ?_
  refine w_ (p_move rfl rfl) ?_
  refine w_ (p_nilCheck rfl rfl rfl) ?_
  refine w_ (p_fieldOw fa_215_2 rfl rfl) ?_
  refine w_ (p_loadOw 0 Tryz.isAgg22 Tryz.sizeOf22 rfl rfl rfl rfl rfl) ?_
  refine w_ (p_len (m := cs.length) Tryz.runUnderlying22 rfl (rlen_pts _) rfl) ?_
  refine w_ (p_move rfl rfl) ?_
  refine aw_nil ?_
  refine ac_block ?_
  refine ac_ownNil [3] 3 1 rfl (allAre1 rfl) rfl ?_
  refine ac_pick [3, 9, 10, 11] rfl ?_
  refine ac_loop (fun m L B => ∃ i r, i ≤ cs.length ∧ m = cs.length - i ∧ L = [(3, .one (.orow r 1 0 i)), (9, .one (pts cs)), (10, .one (.int .i64 (((cs.length : Nat) : Int)))), (11, .one (.int .i64 (((i : Nat) : Int))))] ∧ B = [.row r 3 1 (((cs.take i).map (fun p => p.id)).map (fun (x : Int) => [.int .i64 x])), .blk g 215 [c0, c1, c2, c3, c4, c5, c6, c7, c8, c9, c10, c11, y0, pts cs]]) (m := _) ⟨0, none, Nat.zero_le _, rfl, rfl, rfl⟩ ?_
  rintro m L B ⟨i, r, hp0, hm, rfl, rfl⟩
  by_cases hlt : i < cs.length
  · obtain ⟨c, hc⟩ : ∃ c, cs[i]? = some c := ⟨_, List.getElem?_eq_getElem hlt⟩
    refine ac_seq ?_
    refine ac_reg ?_
    refine w_ (p_cmp rfl rfl rfl rfl) ?_
    refine aw_nil ?_
    refine ac_seq ?_
    refine ac_t rfl (decide_eq_true (by omega)) ?_
    refine ac_skip ?_
    refine ac_seq ?_
    refine ac_block ?_
    refine ac_seq ?_
    refine ac_reg ?_
    refine w_ (p_index (i) Tryz.runUnderlying22 Tryz.sizeOf76 rfl rfl (rfl) (map_get hc) rfl rfl) ?_
    refine w_ (p_loadSh Tryz.isAgg76 Tryz.sizeOf76 rfl rfl rfl rfl) ?_
    refine a_alloc Tryz.zeroValue76 rfl rfl fun g1 => ?_
    refine a_storeOw 0 Tryz.sizeOf76 rfl rfl rfl rfl rfl rfl rfl ?_
    refine aw_nil ?_
    refine ac_reg ?_
    refine w_ (p_move rfl rfl) ?_
    refine w_ (p_fieldOw fa_76_1 rfl rfl) ?_
    refine w_ (p_loadOw 0 Tryz.isAgg3 Tryz.sizeOf3 rfl rfl rfl rfl rfl) ?_
    refine w_ (p_lit Tryz.runUnderlying23 Tryz.sizeOf3 Tryz.zeroValue3 rfl rfl rfl rfl rfl rfl rfl rfl rfl rfl) ?_
    refine a_append (ls2 := (((cs.take (i + 1)).map (fun p => p.id)).map (fun (x : Int) => [.int .i64 x]))) (m2 := i + 1) 1 Tryz.runUnderlying23 Tryz.runUnderlying23 Tryz.typeInfo3 rfl rfl Tryz.sizeOf3 Tryz.zeroValue3 rfl rfl rfl rfl rfl rfl rfl (by rw [List.length_map, List.length_map, List.length_take]; omega) (one_w rfl) (one_f rfl) (by show _ + 1 < _; omega) (by rw [List.take_of_length_le (by rw [List.length_map, List.length_map, List.length_take]; omega), take_snoc hc, List.map_append, List.map_append]; rfl) (rfl) fun r2 => ?_
    refine w_ (p_assign rfl rfl) ?_
    refine aw_nil ?_
    refine ac_reg ?_
    refine w_ (p_add (r := ((i + 1 : Nat) : Int)) rfl rfl (i64_is (by omega) (by omega)) rfl) ?_
    refine w_ (p_move rfl rfl) ?_
    refine aw_pick [3, 9, 10, 11] rfl ?_
    refine aw_drop 1 rfl ?_
    refine aw_nil ?_
    refine ⟨_, ?_, i + 1, r2, by omega, rfl, rfl, rfl⟩
    omega
  · have hi : cs.take i = cs := List.take_of_length_le (by omega)
    refine ac_pub (L2 := _) 0 [3] rfl (allAre1 rfl) (by rw [List.length_map, List.length_map, hi]; omega) (by rw [List.length_map, List.length_map, hi]; omega) rfl ?_
    refine ac_slotEq 3 (y := .one (ids (cs.map (fun p => p.id)))) rfl (by rw [hi]; rfl) ?_
    refine ac_seq ?_
    refine ac_reg ?_
    refine w_ (p_cmp rfl rfl rfl rfl) ?_
    refine aw_nil ?_
    refine ac_seq ?_
    refine ac_f rfl (decide_eq_false (by omega)) ?_
    refine ac_exit ?_
    repeat refine seqQ_exit ?_
    refine blkQ_here ?_
    refine ac_seq ?_
    refine ac_reg ?_
    refine w_ (p_move rfl rfl) ?_
    refine w_ (p_assign rfl rfl) ?_
    refine aw_nil ?_
    refine ac_ret ?_
    exact ⟨_, [], _, rvs_1 Tryz.results60 (rv_tmp rfl rfl), rfl, ⟨rfl, rfl⟩⟩

set_option maxRecDepth 20000 in
theorem d_hull_On {g : Nat} {c0 c1 c2 c3 c4 c5 c6 c7 c8 c9 c10 c11 y0 : LV} {cs : List Pt} (hn : cs.length ≤ 1000) {id : Int} : DoesB Tryz.prog 63 [.one (.ow g 0), .one (.int .i64 id)] [.blk g 215 [c0, c1, c2, c3, c4, c5, c6, c7, c8, c9, c10, c11, y0, pts cs]] fun r B => r = .one (.bool ((cs.any fun p => decide (p.id = id)))) ∧ B = [.blk g 215 [c0, c1, c2, c3, c4, c5, c6, c7, c8, c9, c10, c11, y0, pts cs]] := by
  refine does_ (n := 21) Tryz.func63 rfl Tryz.ntmps63 rfl ?_
  refine ac_seq ?_
  refine ac_reg ?_
  refine w_ (p_assign rfl rfl) ?_
  refine aw_nil ?_
  refine ac_seq ?_
  refine ac_seq ?_
  refine ac_reg ?_
  refine w_ (p_move rfl rfl) ?_
  refine w_ (p_nilCheck rfl rfl rfl) ?_
  refine w_ (p_fieldOw fa_215_2 rfl rfl) ?_
  refine w_ (p_loadOw 0 Tryz.isAgg22 Tryz.sizeOf22 rfl rfl rfl rfl rfl) ?_
  refine w_ (p_len (m := cs.length) Tryz.runUnderlying22 rfl (rlen_pts _) rfl) ?_
  refine w_ (p_move rfl rfl) ?_
  refine aw_nil ?_
  refine ac_block ?_
  refine ac_pick [1, 10, 11, 12] rfl ?_
  refine ac_loop (fun m L B => ∃ i, i ≤ cs.length ∧ ((cs.take i).any fun p => decide (p.id = id)) = false ∧ m = cs.length - i ∧ L = [(1, .one (.int .i64 id)), (10, .one (pts cs)), (11, .one (.int .i64 (((cs.length : Nat) : Int)))), (12, .one (.int .i64 (((i : Nat) : Int))))] ∧ B = [.blk g 215 [c0, c1, c2, c3, c4, c5, c6, c7, c8, c9, c10, c11, y0, pts cs]]) (m := _) ⟨0, Nat.zero_le _, rfl, rfl, rfl, rfl⟩ ?_
  rintro m L B ⟨i, hp0, hp1, hm, rfl, rfl⟩
  by_cases hlt : i < cs.length
  · obtain ⟨c, hc⟩ : ∃ c, cs[i]? = some c := ⟨_, List.getElem?_eq_getElem hlt⟩
    by_cases hid : c.id = id
    · have hany : (cs.any fun p => decide (p.id = id)) = true := List.any_eq_true.2 ⟨c, List.mem_of_getElem? hc, decide_eq_true hid⟩
      refine ac_seq ?_
      refine ac_reg ?_
      refine w_ (p_cmp rfl rfl rfl rfl) ?_
      refine aw_nil ?_
      refine ac_seq ?_
      refine ac_t rfl (decide_eq_true (by omega)) ?_
      refine ac_skip ?_
      refine ac_seq ?_
      refine ac_block ?_
      refine ac_seq ?_
      refine ac_reg ?_
      refine w_ (p_index (i) Tryz.runUnderlying22 Tryz.sizeOf76 rfl rfl (rfl) (map_get hc) rfl rfl) ?_
      refine w_ (p_loadSh Tryz.isAgg76 Tryz.sizeOf76 rfl rfl rfl rfl) ?_
      refine a_alloc Tryz.zeroValue76 rfl rfl fun g1 => ?_
      refine a_storeOw 0 Tryz.sizeOf76 rfl rfl rfl rfl rfl rfl rfl ?_
      refine aw_nil ?_
      refine ac_seq ?_
      refine ac_reg ?_
      refine w_ (p_fieldOw fa_76_1 rfl rfl) ?_
      refine w_ (p_loadOw 0 Tryz.isAgg3 Tryz.sizeOf3 rfl rfl rfl rfl rfl) ?_
      refine w_ (p_move rfl rfl) ?_
      refine w_ (p_cmp rfl rfl rfl rfl) ?_
      refine aw_nil ?_
      refine ac_t rfl (decide_eq_true hid) ?_
      refine ac_seq ?_
      refine ac_reg ?_
      refine w_ (p_assign rfl rfl) ?_
      refine aw_nil ?_
      refine ac_ret ?_
      exact ⟨_, [0], _, rvs_1 Tryz.results63 (rv_tmp rfl rfl), rfl, ⟨by rw [hany]; rfl, rfl⟩⟩
    · skip
      refine ac_seq ?_
      refine ac_reg ?_
      refine w_ (p_cmp rfl rfl rfl rfl) ?_
      refine aw_nil ?_
      refine ac_seq ?_
      refine ac_t rfl (decide_eq_true (by omega)) ?_
      refine ac_skip ?_
      refine ac_seq ?_
      refine ac_block ?_
      refine ac_seq ?_
      refine ac_reg ?_
      refine w_ (p_index (i) Tryz.runUnderlying22 Tryz.sizeOf76 rfl rfl (rfl) (map_get hc) rfl rfl) ?_
      refine w_ (p_loadSh Tryz.isAgg76 Tryz.sizeOf76 rfl rfl rfl rfl) ?_
      refine a_alloc Tryz.zeroValue76 rfl rfl fun g2 => ?_
      refine a_storeOw 0 Tryz.sizeOf76 rfl rfl rfl rfl rfl rfl rfl ?_
      refine aw_nil ?_
      refine ac_seq ?_
      refine ac_reg ?_
      refine w_ (p_fieldOw fa_76_1 rfl rfl) ?_
      refine w_ (p_loadOw 0 Tryz.isAgg3 Tryz.sizeOf3 rfl rfl rfl rfl rfl) ?_
      refine w_ (p_move rfl rfl) ?_
      refine w_ (p_cmp rfl rfl rfl rfl) ?_
      refine aw_nil ?_
      refine ac_f rfl (decide_eq_false hid) ?_
      refine ac_skip ?_
      refine ac_reg ?_
      refine w_ (p_add (r := ((i + 1 : Nat) : Int)) rfl rfl (i64_is (by omega) (by omega)) rfl) ?_
      refine w_ (p_move rfl rfl) ?_
      refine aw_pick [1, 10, 11, 12] rfl ?_
      refine aw_drop 0 rfl ?_
      refine aw_nil ?_
      refine ⟨_, ?_, i + 1, by omega, by rw [take_snoc hc, List.any_append, hp1]; simp [hid], rfl, rfl, rfl⟩
      omega
  · have hany : (cs.any fun p => decide (p.id = id)) = false := by rw [← hp1, List.take_of_length_le (by omega)]
    refine ac_seq ?_
    refine ac_reg ?_
    refine w_ (p_cmp rfl rfl rfl rfl) ?_
    refine aw_nil ?_
    refine ac_seq ?_
    refine ac_f rfl (decide_eq_false (by omega)) ?_
    refine ac_exit ?_
    repeat refine seqQ_exit ?_
    refine blkQ_here ?_
    refine ac_seq ?_
    refine ac_reg ?_
    refine w_ (p_assign rfl rfl) ?_
    refine aw_nil ?_
    refine ac_ret ?_
    exact ⟨_, [], _, rvs_1 Tryz.results63 (rv_tmp rfl rfl), rfl, ⟨by rw [hany]; rfl, rfl⟩⟩

theorem d_hull_IdsE {g : Nat} {c0 c1 c2 c3 c4 c5 c6 c7 c8 c9 c10 c11 y0 : LV} {cs : List Pt} (hn : cs.length ≤ 1000) {l : List Int} (h : cs.map (fun p => p.id) = l) : DoesB Tryz.prog 60 [.one (.ow g 0)] [.blk g 215 [c0, c1, c2, c3, c4, c5, c6, c7, c8, c9, c10, c11, y0, pts cs]] fun r B => r = .one (ids l) ∧ B = [.blk g 215 [c0, c1, c2, c3, c4, c5, c6, c7, c8, c9, c10, c11, y0, pts cs]] := by
  subst h; exact d_hull_Ids hn

theorem d_hull_OnE {g : Nat} {c0 c1 c2 c3 c4 c5 c6 c7 c8 c9 c10 c11 y0 : LV} {cs : List Pt} (hn : cs.length ≤ 1000) {id : Int} {b : Bool} (h : (cs.any fun p => decide (p.id = id)) = b) : DoesB Tryz.prog 63 [.one (.ow g 0), .one (.int .i64 id)] [.blk g 215 [c0, c1, c2, c3, c4, c5, c6, c7, c8, c9, c10, c11, y0, pts cs]] fun r B => r = .one (.bool b) ∧ B = [.blk g 215 [c0, c1, c2, c3, c4, c5, c6, c7, c8, c9, c10, c11, y0, pts cs]] := by
  subst h; exact d_hull_On hn

end Orr

namespace Orr
open Go Go.Proofs
set_option maxRecDepth 20000 in
theorem d_keep_SameI {l : List Int} (hn : l.length ≤ 1000000) : Does Tryz.prog 32 [.one (ids l), .one (ids l)] (.one (.bool true)) := by
  refine does_ (n := 26) Tryz.func32 rfl Tryz.ntmps32 rfl ?_
  refine ac_seq ?_
  refine ac_reg ?_
  refine w_ (p_assign rfl rfl) ?_
  refine aw_nil ?_
  refine ac_seq ?_
  refine ac_seq ?_
  refine ac_reg ?_
  refine w_ (p_move rfl rfl) ?_
  refine w_ (p_len (m := l.length) Tryz.runUnderlying23 rfl (rlen_ids _) rfl) ?_
  refine w_ (p_move rfl rfl) ?_
  refine w_ (p_len (m := l.length) Tryz.runUnderlying23 rfl (rlen_ids _) rfl) ?_
  refine w_ (p_cmp rfl rfl rfl rfl) ?_
  refine aw_nil ?_
  refine ac_f rfl (decide_eq_false (fun h => h rfl)) ?_
  refine ac_skip ?_
  refine ac_seq ?_
  refine ac_seq ?_
  refine ac_reg ?_
  refine w_ (p_assign rfl rfl) ?_
  refine aw_nil ?_
  refine ac_block ?_
  refine ac_pick [0, 1, 5] rfl ?_
  refine ac_loop (fun m L B => ∃ i, i ≤ l.length ∧ m = l.length - i ∧ L = [(0, .one (ids l)), (1, .one (ids l)), (5, .one (.int .i64 (((i : Nat) : Int))))] ∧ B = []) (m := _) ⟨0, Nat.zero_le _, rfl, rfl, rfl⟩ ?_
  rintro m L B ⟨i, hp0, hm, rfl, rfl⟩
  by_cases hlt : i < l.length
  · obtain ⟨x, hx⟩ : ∃ x, l[i]? = some x := ⟨_, List.getElem?_eq_getElem hlt⟩
    refine ac_seq ?_
    refine ac_seq ?_
    refine ac_reg ?_
    refine w_ (p_move rfl rfl) ?_
    refine w_ (p_move rfl rfl) ?_
    refine w_ (p_len (m := l.length) Tryz.runUnderlying23 rfl (rlen_ids _) rfl) ?_
    refine w_ (p_cmp rfl rfl rfl rfl) ?_
    refine aw_nil ?_
    refine ac_t rfl (decide_eq_true (by omega)) ?_
    refine ac_skip ?_
    refine ac_seq ?_
    refine ac_block ?_
    refine ac_seq ?_
    refine ac_draw mixed_ 8 [17, 18, 19, 20, 21, 22, 23, 24] [[], [], [0, 1], [2], [], [], [4, 5], [6]] [.one (ids l), .one (.int .i64 (((i : Nat) : Int))), .one (.sh [.int .i64 x]), .one (.int .i64 x), .one (ids l), .one (.int .i64 (((i : Nat) : Int))), .one (.sh [.int .i64 x]), .one (.int .i64 x)] rfl rfl rfl ⟨p_move rfl rfl, p_move rfl rfl, p_index (i) Tryz.runUnderlying23 Tryz.sizeOf3 rfl rfl (rfl) (map_get hx) rfl rfl, p_loadSh Tryz.isAgg3 Tryz.sizeOf3 rfl rfl rfl rfl, p_move rfl rfl, p_move rfl rfl, p_index (i) Tryz.runUnderlying23 Tryz.sizeOf3 rfl rfl (rfl) (map_get hx) rfl rfl, p_loadSh Tryz.isAgg3 Tryz.sizeOf3 rfl rfl rfl rfl, trivial⟩ rfl ?_
    refine w_ (p_cmp rfl rfl rfl rfl) ?_
    refine aw_nil ?_
    refine ac_f rfl (decide_eq_false (fun h => h rfl)) ?_
    refine ac_skip ?_
    refine ac_reg ?_
    refine w_ (p_move rfl rfl) ?_
    refine w_ (p_add (r := ((i + 1 : Nat) : Int)) rfl rfl (i64_is (by omega) (by omega)) rfl) ?_
    refine w_ (p_assign rfl rfl) ?_
    refine aw_pick [0, 1, 5] rfl ?_
    refine aw_nil ?_
    refine ⟨_, ?_, i + 1, by omega, rfl, rfl, rfl⟩
    omega
  · skip
    refine ac_seq ?_
    refine ac_seq ?_
    refine ac_reg ?_
    refine w_ (p_move rfl rfl) ?_
    refine w_ (p_move rfl rfl) ?_
    refine w_ (p_len (m := l.length) Tryz.runUnderlying23 rfl (rlen_ids _) rfl) ?_
    refine w_ (p_cmp rfl rfl rfl rfl) ?_
    refine aw_nil ?_
    refine ac_f rfl (decide_eq_false (by omega)) ?_
    refine ac_exit ?_
    repeat refine seqQ_exit ?_
    refine blkQ_here ?_
    refine ac_seq ?_
    refine ac_reg ?_
    refine w_ (p_assign rfl rfl) ?_
    refine aw_nil ?_
    refine ac_ret ?_
    exact retB_1 Tryz.results32 (rv_tmp rfl rfl) (rfl)

theorem wake_ids : (hcorners (ratOf 0 0) (newL [] [(Pt.mk (still 0 0) 3), (Pt.mk (still 0 1) 2), (Pt.mk (still 1 0) 1)]).1).map (fun p => p.id) = [3, 1, 2] := by decide +kernel
theorem wake_on : ((hcorners (ratOf 0 0) (newL [] [(Pt.mk (still 0 0) 3), (Pt.mk (still 0 1) 2), (Pt.mk (still 1 0) 1)]).1).any fun p => decide (p.id = 2)) = true := by decide +kernel
theorem wake_off : ((hcorners (ratOf 0 0) (newL [] [(Pt.mk (still 0 0) 3), (Pt.mk (still 0 1) 2), (Pt.mk (still 1 0) 1)]).1).any fun p => decide (p.id = 9)) = false := by decide +kernel
theorem wake_good : GoodP [(Pt.mk (still 0 0) 3), (Pt.mk (still 0 1) 2), (Pt.mk (still 1 0) 1)] := by
  intro x hx
  simp only [List.mem_cons, List.not_mem_nil, or_false] at hx
  rcases hx with rfl | rfl | rfl <;> exact good_still (by decide) (by decide)
theorem wake_len : (hcorners (ratOf 0 0) (newL [] [(Pt.mk (still 0 0) 3), (Pt.mk (still 0 1) 2), (Pt.mk (still 1 0) 1)]).1).length ≤ 1000 := by
  have h1 := hcorners_len (ratOf 0 0) (newL [] [(Pt.mk (still 0 0) 3), (Pt.mk (still 0 1) 2), (Pt.mk (still 1 0) 1)]).1
  have h2 := newL_len [(Pt.mk (still 0 0) 3), (Pt.mk (still 0 1) 2), (Pt.mk (still 1 0) 1)]
  have h3 : [(Pt.mk (still 0 0) 3), (Pt.mk (still 0 1) 2), (Pt.mk (still 1 0) 1)].length = 3 := rfl
  omega

set_option maxRecDepth 20000 in
theorem d_law20_wakes  : Does Tryz.prog 65 [] (.one (.bool true)) := by
  refine does_ (n := 36) Tryz.func65 rfl Tryz.ntmps65 rfl ?_
  refine ac_seq ?_
  refine ac_reg ?_
  refine w_ (p_assign rfl rfl) ?_
  refine aw_nil ?_
  refine ac_seq ?_
  refine ac_reg ?_
  refine w_ (p_build (bd_57) rfl rfl rfl rfl) ?_
  refine w_ (p_call Tryz.func45 rfl rfl rfl rfl (d_curve_Still (by decide) (by decide)) rfl) ?_
  refine w_ (p_build (bd_76) rfl rfl rfl rfl) ?_
  refine w_ (p_call Tryz.func45 rfl rfl rfl rfl (d_curve_Still (by decide) (by decide)) rfl) ?_
  refine w_ (p_build (bd_76) rfl rfl rfl rfl) ?_
  refine w_ (p_call Tryz.func45 rfl rfl rfl rfl (d_curve_Still (by decide) (by decide)) rfl) ?_
  refine w_ (p_build (bd_76) rfl rfl rfl rfl) ?_
  refine w_ (p_lit Tryz.runUnderlying22 Tryz.sizeOf76 Tryz.zeroValue76 rfl rfl rfl rfl rfl rfl rfl rfl rfl rfl) ?_
  refine a_calls (Bin := []) Tryz.func69 rfl rfl rfl rfl (d_hull_New (l1 := []) (l2 := []) (qs := [(Pt.mk (still 0 0) 3), (Pt.mk (still 0 1) 2), (Pt.mk (still 1 0) 1)]) isInt_zero isInt_zero (by decide) (by decide) (qs_0.mono (by omega)) (isPts_n (l := [(Pt.mk (still 0 0) 3), (Pt.mk (still 0 1) 2), (Pt.mk (still 1 0) 1)]) (fun x hx => ⟨(wake_good x hx).1, (wake_good x hx).2.mono (by omega) (by omega)⟩)) wake_good (show 3 ≤ 6 by decide) (by decide +kernel)) rfl fun r_ B_ hr_ => ?_
  obtain ⟨g, rfl, rfl⟩ := hr_
  refine w_ (p_move rfl rfl) ?_
  refine w_ (p_extract rfl rfl rfl) ?_
  refine w_ (p_extract rfl rfl rfl) ?_
  refine w_ (p_assign rfl rfl) ?_
  refine w_ (p_assign rfl rfl) ?_
  refine aw_nil ?_
  refine ac_seq ?_
  refine ac_reg ?_
  refine w_ (p_move rfl rfl) ?_
  refine w_ (p_cmp (b := true) rfl rfl rfl rfl) ?_
  refine w_ (p_move rfl rfl) ?_
  refine w_ ((p_grun rfl rfl (rfl) (p_move rfl rfl))) ?_
  refine w_ ((p_grun rfl rfl (rfl) (p_neNil Tryz.runUnderlying143 rfl rfl rfl rfl rfl))) ?_
  refine w_ (p_pickT rfl (rfl) rfl rfl) ?_
  refine w_ (p_move rfl rfl) ?_
  refine w_ ((p_grun rfl rfl (rfl) (p_move rfl rfl))) ?_
  refine aw_grun rfl rfl (rfl) ?_
  refine a_calls (Bin := [.blk g 215 [.bool true, pl ([-((ratOf 0 0)).num, (((ratOf 0 0)).den : Int)]), sg ((((ratOf 0 0))).num), mg ((((ratOf 0 0))).num), sg (((((ratOf 0 0))).den : Int)), mg (((((ratOf 0 0))).den : Int)), sg ((((ratOf 0 0))).num), mg ((((ratOf 0 0))).num), sg (((((ratOf 0 0))).den : Int)), mg (((((ratOf 0 0))).den : Int)), wts ((sortC (hullC ((ratOf 0 0)) ((newL [] [(Pt.mk (still 0 0) 3), (Pt.mk (still 0 1) 2), (Pt.mk (still 1 0) 1)]).1)))), .int .i64 0, pts ((newL [] [(Pt.mk (still 0 0) 3), (Pt.mk (still 0 1) 2), (Pt.mk (still 1 0) 1)]).1), pts ((hcorners ((ratOf 0 0)) ((newL [] [(Pt.mk (still 0 0) 3), (Pt.mk (still 0 1) 2), (Pt.mk (still 1 0) 1)]).1)))]]) Tryz.func60 rfl rfl rfl rfl (d_hull_IdsE (g := g) wake_len wake_ids) rfl fun r_ B_ hr_ => ?_
  obtain ⟨rfl, rfl⟩ := hr_
  refine w_ ((p_grun rfl rfl (rfl) (p_lit Tryz.runUnderlying23 Tryz.sizeOf3 Tryz.zeroValue3 rfl rfl rfl rfl rfl rfl rfl rfl rfl rfl))) ?_
  refine w_ ((p_grun rfl rfl (rfl) (p_call Tryz.func32 rfl rfl rfl rfl (d_keep_SameI (l := [3, 1, 2]) (by decide)) rfl))) ?_
  refine w_ (p_pickT rfl (rfl) rfl rfl) ?_
  refine w_ (p_move rfl rfl) ?_
  refine w_ ((p_grun rfl rfl (rfl) (p_move rfl rfl))) ?_
  refine aw_grun rfl rfl (rfl) ?_
  refine a_calls (Bin := [.blk g 215 [.bool true, pl ([-((ratOf 0 0)).num, (((ratOf 0 0)).den : Int)]), sg ((((ratOf 0 0))).num), mg ((((ratOf 0 0))).num), sg (((((ratOf 0 0))).den : Int)), mg (((((ratOf 0 0))).den : Int)), sg ((((ratOf 0 0))).num), mg ((((ratOf 0 0))).num), sg (((((ratOf 0 0))).den : Int)), mg (((((ratOf 0 0))).den : Int)), wts ((sortC (hullC ((ratOf 0 0)) ((newL [] [(Pt.mk (still 0 0) 3), (Pt.mk (still 0 1) 2), (Pt.mk (still 1 0) 1)]).1)))), .int .i64 0, pts ((newL [] [(Pt.mk (still 0 0) 3), (Pt.mk (still 0 1) 2), (Pt.mk (still 1 0) 1)]).1), pts ((hcorners ((ratOf 0 0)) ((newL [] [(Pt.mk (still 0 0) 3), (Pt.mk (still 0 1) 2), (Pt.mk (still 1 0) 1)]).1)))]]) Tryz.func63 rfl rfl rfl rfl (d_hull_OnE (g := g) (id := 2) wake_len wake_on) rfl fun r_ B_ hr_ => ?_
  obtain ⟨rfl, rfl⟩ := hr_
  refine w_ (p_pickT rfl (rfl) rfl rfl) ?_
  refine w_ (p_move rfl rfl) ?_
  refine w_ ((p_grun rfl rfl (rfl) (p_move rfl rfl))) ?_
  refine aw_grun rfl rfl (rfl) ?_
  refine a_calls (Bin := [.blk g 215 [.bool true, pl ([-((ratOf 0 0)).num, (((ratOf 0 0)).den : Int)]), sg ((((ratOf 0 0))).num), mg ((((ratOf 0 0))).num), sg (((((ratOf 0 0))).den : Int)), mg (((((ratOf 0 0))).den : Int)), sg ((((ratOf 0 0))).num), mg ((((ratOf 0 0))).num), sg (((((ratOf 0 0))).den : Int)), mg (((((ratOf 0 0))).den : Int)), wts ((sortC (hullC ((ratOf 0 0)) ((newL [] [(Pt.mk (still 0 0) 3), (Pt.mk (still 0 1) 2), (Pt.mk (still 1 0) 1)]).1)))), .int .i64 0, pts ((newL [] [(Pt.mk (still 0 0) 3), (Pt.mk (still 0 1) 2), (Pt.mk (still 1 0) 1)]).1), pts ((hcorners ((ratOf 0 0)) ((newL [] [(Pt.mk (still 0 0) 3), (Pt.mk (still 0 1) 2), (Pt.mk (still 1 0) 1)]).1)))]]) Tryz.func63 rfl rfl rfl rfl (d_hull_OnE (g := g) (id := 9) wake_len wake_off) rfl fun r_ B_ hr_ => ?_
  obtain ⟨rfl, rfl⟩ := hr_
  refine w_ ((p_grun rfl rfl (rfl) (p_not rfl rfl))) ?_
  refine w_ (p_pickT rfl (rfl) rfl rfl) ?_
  refine w_ (p_assign rfl rfl) ?_
  refine aw_nil ?_
  refine ac_ret ?_
  exact retB_1 Tryz.results65 (rv_tmp rfl rfl) (rfl)

set_option maxRecDepth 20000 in
theorem d_law20_News {zs : List (List LV)} {n : Int} (hz : Named zs) (hn : -9223372036854775808 ≤ n ∧ n ≤ 9223372036854775807) : Does Tryz.prog 14 [.one (.row zs), .one (.int .i64 n)] (.one (.bool true)) := by
  refine does_ (n := 141) Tryz.func14 rfl Tryz.ntmps14 rfl ?_
  obtain ⟨N, hN, hN8⟩ : ∃ N : Nat, n % 9 = (N : Int) ∧ N ≤ 8 := ⟨(n % 9).toNat, by omega, by omega⟩
  · skip
    refine ac_seq ?_
    refine ac_reg ?_
    refine w_ (p_assign rfl rfl) ?_
    refine aw_nil ?_
    refine ac_seq ?_
    refine ac_reg ?_
    refine w_ (p_move rfl rfl) ?_
    refine w_ (p_call Tryz.func18 rfl rfl rfl rfl (d_keep_Within (hn) (by omega)) rfl) ?_
    refine w_ (p_assign rfl rfl) ?_
    refine aw_nil ?_
    refine ac_seq ?_
    refine ac_reg ?_
    refine w_ (p_assign rfl rfl) ?_
    refine aw_nil ?_
    refine ac_cut (fun L B => ∃ i r, i ≤ N ∧ (zs.length ≤ i ∨ i = N) ∧ L = [(1, .one (.int .i64 (((N : Nat) : Int)))), (5, .one (.orow r 5 0 i))] ∧ B = [.row r 76 5 ((npts zs i).map ofPt)]) ?_ ?_
    · skip
      refine ac_seq ?_
      refine ac_reg ?_
      refine w_ (p_assign rfl rfl) ?_
      refine aw_nil ?_
      refine ac_block ?_
      refine ac_slotEq 1 (y := .one (.int .i64 ((N : Nat) : Int))) rfl (by rw [hN]) ?_
      refine ac_ownNil [5] 76 5 rfl (allAre1 rfl) rfl ?_
      refine ac_pick [0, 1, 5, 6] rfl ?_
      refine ac_loop (fun m L B => ∃ i r, i ≤ zs.length ∧ i ≤ N ∧ m = N - i ∧ L = [(0, .one (.row zs)), (1, .one (.int .i64 (((N : Nat) : Int)))), (5, .one (.orow r 5 0 i)), (6, .one (.int .i64 (((i : Nat) : Int))))] ∧ B = [.row r 76 5 ((npts zs i).map ofPt)]) (m := _) ⟨0, none, Nat.zero_le _, Nat.zero_le _, rfl, rfl, rfl⟩ ?_
      rintro m L B ⟨i, r, hp0, hp1, hm, rfl, rfl⟩
      by_cases h1 : i < zs.length
      · by_cases h2 : i < N
        · have hii : i * i ≤ 8 * 8 := Nat.mul_le_mul (by omega) (by omega)
          obtain ⟨x0, x1, x2, x3, id, hze, hid⟩ := hz zs[i] (List.getElem_mem h1)
          have hzi : zs[i]? = some [x0, x1, x2, x3, .int .i64 id] := by rw [List.getElem?_eq_getElem h1, hze]
          have hpt := npt_in h1
          rw [hze] at hpt
          refine ac_seq ?_
          refine ac_seq ?_
          refine ac_reg ?_
          refine w_ (p_move rfl rfl) ?_
          refine w_ (p_move rfl rfl) ?_
          refine w_ (p_len (m := zs.length) Tryz.runUnderlying22 rfl (rfl) rfl) ?_
          refine w_ (p_cmp rfl rfl rfl rfl) ?_
          refine w_ (p_move rfl rfl) ?_
          refine w_ ((p_grun rfl rfl (decide_eq_true (by omega)) (p_move rfl rfl))) ?_
          refine w_ ((p_grun rfl rfl (decide_eq_true (by omega)) (p_move rfl rfl))) ?_
          refine w_ ((p_grun rfl rfl (decide_eq_true (by omega)) (p_cmp rfl rfl rfl rfl))) ?_
          refine w_ (p_pickT rfl (decide_eq_true (by omega)) rfl rfl) ?_
          refine aw_nil ?_
          refine ac_t rfl (decide_eq_true (by omega)) ?_
          refine ac_skip ?_
          refine ac_seq ?_
          refine ac_block ?_
          refine ac_draw mixed_ 14 [26, 27, 28, 29, 30, 31, 32, 33, 34, 35, 36, 37, 38, 39] [[], [], [], [], [2, 3], [1, 4], [], [], [6, 7], [8], [9], [10], [5, 11], [12]] [.one (.orow r 5 0 i), .one (.int .i64 (((i : Nat) : Int))), .one (.int .i64 (((i : Nat) : Int))), .one (.int .i64 (((i : Nat) : Int))), .one (.int .i64 (((i * i : Nat) : Int))), .agg [pl (((still (((i : Nat) : Int)) (((i * i : Nat) : Int)))).x), pl (((still (((i : Nat) : Int)) (((i * i : Nat) : Int)))).y), sg (((still (((i : Nat) : Int)) (((i * i : Nat) : Int)))).d), mg (((still (((i : Nat) : Int)) (((i * i : Nat) : Int)))).d)], .one (.row zs), .one (.int .i64 (((i : Nat) : Int))), .one (.sh [x0, x1, x2, x3, .int .i64 id]), .one (.sh [.int .i64 id]), .one (.int .i64 id), .one (.int .i64 ((id % 40))), .agg [pl (((still (((i : Nat) : Int)) (((i * i : Nat) : Int)))).x), pl (((still (((i : Nat) : Int)) (((i * i : Nat) : Int)))).y), sg (((still (((i : Nat) : Int)) (((i * i : Nat) : Int)))).d), mg (((still (((i : Nat) : Int)) (((i * i : Nat) : Int)))).d), .int .i64 ((id % 40))], .one (.row [[pl (((still (((i : Nat) : Int)) (((i * i : Nat) : Int)))).x), pl (((still (((i : Nat) : Int)) (((i * i : Nat) : Int)))).y), sg (((still (((i : Nat) : Int)) (((i * i : Nat) : Int)))).d), mg (((still (((i : Nat) : Int)) (((i * i : Nat) : Int)))).d), .int .i64 ((id % 40))]])] rfl rfl rfl ⟨p_move rfl rfl, p_move rfl rfl, p_move rfl rfl, p_move rfl rfl, p_mul (r := ((i * i : Nat) : Int)) rfl rfl (i64_is (by rw [Int.natCast_mul]) (by omega)) rfl, p_call Tryz.func45 rfl rfl rfl rfl (d_curve_Still (by omega) (by omega)) rfl, p_move rfl rfl, p_move rfl rfl, p_index (i) Tryz.runUnderlying22 Tryz.sizeOf76 rfl rfl (rfl) (hzi) rfl rfl, p_fieldSh fa_76_1 rfl rfl rfl, p_loadSh Tryz.isAgg3 Tryz.sizeOf3 rfl rfl rfl rfl, p_call Tryz.func18 rfl rfl rfl rfl (d_keep_Within (hid) (by omega)) rfl, p_build (bd_76) rfl rfl rfl rfl, p_lit Tryz.runUnderlying22 Tryz.sizeOf76 Tryz.zeroValue76 rfl rfl rfl rfl rfl rfl rfl rfl rfl rfl, trivial⟩ rfl ?_
          refine a_append (ls2 := (npts zs (i + 1)).map ofPt) (m2 := i + 1) 0 Tryz.runUnderlying22 Tryz.runUnderlying22 Tryz.typeInfo76 rfl rfl Tryz.sizeOf76 Tryz.zeroValue76 rfl rfl rfl rfl rfl rfl rfl (by rw [List.length_map, npts_len]; exact Nat.le_refl _) (one_w rfl) (one_f rfl) (by show _ + 1 < _; omega) (by rw [List.take_of_length_le (by rw [List.length_map, npts_len]; exact Nat.le_refl _), npts_snoc, hpt]; rfl) (rfl) fun r1 => ?_
          refine w_ (p_assign rfl rfl) ?_
          refine aw_nil ?_
          refine ac_reg ?_
          refine w_ (p_move rfl rfl) ?_
          refine w_ (p_add (r := ((i + 1 : Nat) : Int)) rfl rfl (i64_is (by omega) (by omega)) rfl) ?_
          refine w_ (p_assign rfl rfl) ?_
          refine aw_pick [0, 1, 5, 6] rfl ?_
          refine aw_nil ?_
          refine ⟨_, ?_, i + 1, r1, by omega, by omega, rfl, rfl, rfl⟩
          omega
        · skip
          refine ac_seq ?_
          refine ac_seq ?_
          refine ac_reg ?_
          refine w_ (p_move rfl rfl) ?_
          refine w_ (p_move rfl rfl) ?_
          refine w_ (p_len (m := zs.length) Tryz.runUnderlying22 rfl (rfl) rfl) ?_
          refine w_ (p_cmp rfl rfl rfl rfl) ?_
          refine w_ (p_move rfl rfl) ?_
          refine w_ ((p_grun rfl rfl (decide_eq_true (by omega)) (p_move rfl rfl))) ?_
          refine w_ ((p_grun rfl rfl (decide_eq_true (by omega)) (p_move rfl rfl))) ?_
          refine w_ ((p_grun rfl rfl (decide_eq_true (by omega)) (p_cmp rfl rfl rfl rfl))) ?_
          refine w_ (p_pickT rfl (decide_eq_true (by omega)) rfl rfl) ?_
          refine aw_nil ?_
          refine ac_f rfl (decide_eq_false (by omega)) ?_
          refine ac_pick [1, 5] rfl ?_
          refine ac_exit ?_
          repeat refine seqQ_exit ?_
          refine blkQ_here ?_
          exact ⟨i, r, by omega, by omega, rfl, rfl⟩
      · skip
        refine ac_seq ?_
        refine ac_seq ?_
        refine ac_reg ?_
        refine w_ (p_move rfl rfl) ?_
        refine w_ (p_move rfl rfl) ?_
        refine w_ (p_len (m := zs.length) Tryz.runUnderlying22 rfl (rfl) rfl) ?_
        refine w_ (p_cmp rfl rfl rfl rfl) ?_
        refine w_ (p_move rfl rfl) ?_
        refine w_ (p_gskip rfl rfl (decide_eq_false (by omega)) rfl) ?_
        refine w_ (p_gskip rfl rfl (decide_eq_false (by omega)) rfl) ?_
        refine w_ (p_gskip rfl rfl (decide_eq_false (by omega)) rfl) ?_
        refine w_ (p_pickF rfl (decide_eq_false (by omega)) rfl rfl) ?_
        refine aw_nil ?_
        refine ac_f rfl (rfl) ?_
        refine ac_pick [1, 5] rfl ?_
        refine ac_exit ?_
        repeat refine seqQ_exit ?_
        refine blkQ_here ?_
        exact ⟨i, r, by omega, by omega, rfl, rfl⟩
    · rintro L B ⟨i, r, hp0, hp1, rfl, rfl⟩
      skip
      · skip
        refine ac_cut (fun L B => L = [(5, .one (pts ((npts zs N))))] ∧ B = []) ?_ ?_
        · skip
          refine ac_seq ?_
          refine ac_reg ?_
          refine w_ (p_move rfl rfl) ?_
          refine w_ (p_len (m := i) Tryz.runUnderlying22 rfl (rfl) rfl) ?_
          refine w_ (p_assign rfl rfl) ?_
          refine aw_nil ?_
          refine ac_block ?_
          refine ac_pick [1, 5, 7] rfl ?_
          refine ac_loop (fun m L B => ∃ i r, i ≤ N ∧ (zs.length ≤ i ∨ i = N) ∧ m = N - i ∧ L = [(1, .one (.int .i64 (((N : Nat) : Int)))), (5, .one (.orow r 5 0 i)), (7, .one (.int .i64 (((i : Nat) : Int))))] ∧ B = [.row r 76 5 ((npts zs i).map ofPt)]) (m := _) ⟨i, r, hp0, hp1, rfl, rfl, rfl⟩ ?_
          rintro m L B ⟨i, r, hp0, hp1, hm, rfl, rfl⟩
          by_cases h2 : i < N
          · have hii : i * i ≤ 8 * 8 := Nat.mul_le_mul (by omega) (by omega)
            have hnm : (-((i : Nat) : Int)) * ((i : Nat) : Int) = -((i * i : Nat) : Int) := by rw [Int.neg_mul, Int.natCast_mul]
            have hpt := npt_out (zs := zs) (i := i) (by omega)
            refine ac_seq ?_
            refine ac_seq ?_
            refine ac_reg ?_
            refine w_ (p_move rfl rfl) ?_
            refine w_ (p_move rfl rfl) ?_
            refine w_ (p_cmp rfl rfl rfl rfl) ?_
            refine aw_nil ?_
            refine ac_t rfl (decide_eq_true (by omega)) ?_
            refine ac_skip ?_
            refine ac_seq ?_
            refine ac_block ?_
            refine ac_reg ?_
            refine w_ (p_move rfl rfl) ?_
            refine w_ (p_move rfl rfl) ?_
            refine w_ (p_move rfl rfl) ?_
            refine w_ (p_neg (r := (-(((i : Nat) : Int)))) rfl (i64_is rfl (by omega)) rfl) ?_
            refine w_ (p_move rfl rfl) ?_
            refine w_ (p_mul (r := (-((i * i : Nat) : Int))) rfl rfl (i64_is hnm (by omega)) rfl) ?_
            refine w_ (p_call Tryz.func45 rfl rfl rfl rfl (d_curve_Still (by omega) (by omega)) rfl) ?_
            refine w_ (p_move rfl rfl) ?_
            refine w_ (p_add (r := ((100 + i : Nat) : Int)) rfl rfl (i64_is (by omega) (by omega)) rfl) ?_
            refine w_ (p_build (bd_76) rfl rfl rfl rfl) ?_
            refine w_ (p_lit Tryz.runUnderlying22 Tryz.sizeOf76 Tryz.zeroValue76 rfl rfl rfl rfl rfl rfl rfl rfl rfl rfl) ?_
            refine a_append (ls2 := (npts zs (i + 1)).map ofPt) (m2 := i + 1) 0 Tryz.runUnderlying22 Tryz.runUnderlying22 Tryz.typeInfo76 rfl rfl Tryz.sizeOf76 Tryz.zeroValue76 rfl rfl rfl rfl rfl rfl rfl (by rw [List.length_map, npts_len]; exact Nat.le_refl _) (one_w rfl) (one_f rfl) (by show _ + 1 < _; omega) (by rw [List.take_of_length_le (by rw [List.length_map, npts_len]; exact Nat.le_refl _), npts_snoc, hpt]; rfl) (rfl) fun r2 => ?_
            refine w_ (p_assign rfl rfl) ?_
            refine aw_nil ?_
            refine ac_reg ?_
            refine w_ (p_move rfl rfl) ?_
            refine w_ (p_add (r := ((i + 1 : Nat) : Int)) rfl rfl (i64_is (by omega) (by omega)) rfl) ?_
            refine w_ (p_assign rfl rfl) ?_
            refine aw_pick [1, 5, 7] rfl ?_
            refine aw_nil ?_
            refine ⟨_, ?_, i + 1, r2, by omega, by omega, rfl, rfl, rfl⟩
            omega
          · have hi : i = N := by omega
            refine ac_pub (L2 := _) 0 [5] rfl (allAre1 rfl) (by rw [List.length_map, npts_len]) (by rw [List.length_map, npts_len]; omega) rfl ?_
            refine ac_slotEq 5 (y := .one (pts (npts zs N))) rfl (by rw [hi]; rfl) ?_
            refine ac_seq ?_
            refine ac_seq ?_
            refine ac_reg ?_
            refine w_ (p_move rfl rfl) ?_
            refine w_ (p_move rfl rfl) ?_
            refine w_ (p_cmp rfl rfl rfl rfl) ?_
            refine aw_nil ?_
            refine ac_f rfl (decide_eq_false (by omega)) ?_
            refine ac_pick [5] rfl ?_
            refine ac_exit ?_
            repeat refine seqQ_exit ?_
            refine blkQ_here ?_
            exact ⟨rfl, rfl⟩
        · rintro L B ⟨rfl, rfl⟩
          have hgood : GoodP (npts zs N) := npts_good hN8
          have hlen := npts_len zs N
          by_cases h6 : 6 < N
          · skip
            refine ac_seq ?_
            refine ac_reg ?_
            refine w_ (p_build (bd_57) rfl rfl rfl rfl) ?_
            refine w_ (p_move rfl rfl) ?_
            refine w_ (p_call Tryz.func69 rfl rfl rfl rfl (d_hull_NewF (l1 := []) (l2 := []) (qs := (npts zs N)) isInt_zero isInt_zero (by decide) (by decide) (qs_0.mono (by omega)) (isPts_n (fun x hx => ⟨(hgood x hx).1, (hgood x hx).2.mono (by omega) (by omega)⟩)) (by rw [npts_len]; omega)) rfl) ?_
            refine w_ (p_move rfl rfl) ?_
            refine w_ (p_extract rfl rfl rfl) ?_
            refine w_ (p_extract rfl rfl rfl) ?_
            refine w_ (p_assign rfl rfl) ?_
            refine w_ (p_assign rfl rfl) ?_
            refine aw_nil ?_
            refine ac_seq ?_
            refine ac_seq ?_
            refine ac_reg ?_
            refine w_ (p_move rfl rfl) ?_
            refine w_ (p_len (m := ((npts zs N)).length) Tryz.runUnderlying22 rfl (rlen_pts _) rfl) ?_
            refine w_ (p_cmp rfl rfl rfl rfl) ?_
            refine aw_nil ?_
            refine ac_t rfl (decide_eq_true (by omega)) ?_
            refine ac_seq ?_
            refine ac_reg ?_
            refine w_ (p_move rfl rfl) ?_
            refine w_ (p_cmp (b := true) rfl rfl rfl rfl) ?_
            refine w_ (p_move rfl rfl) ?_
            refine w_ ((p_grun rfl rfl (rfl) (p_move rfl rfl))) ?_
            refine w_ ((p_grun rfl rfl (rfl) (p_eqNil Tryz.runUnderlying143 rfl rfl rfl rfl rfl))) ?_
            refine w_ (p_pickT rfl (rfl) rfl rfl) ?_
            refine w_ (p_move rfl rfl) ?_
            refine w_ ((p_grun rfl rfl (rfl) (p_call Tryz.func65 rfl rfl rfl rfl (d_law20_wakes) rfl))) ?_
            refine w_ (p_pickT rfl (rfl) rfl rfl) ?_
            refine w_ (p_assign rfl rfl) ?_
            refine aw_nil ?_
            refine ac_ret ?_
            exact retB_1 Tryz.results14 (rv_tmp rfl rfl) (rfl)
          · rcases newL_news (qs := (npts zs N)) (by omega) with ⟨he0, hso, hln, hpw⟩ | ⟨he6, hpw⟩
            · skip
              refine ac_seq ?_
              refine ac_reg ?_
              refine w_ (p_build (bd_57) rfl rfl rfl rfl) ?_
              refine w_ (p_move rfl rfl) ?_
              refine a_calls (Bin := []) Tryz.func69 rfl rfl rfl rfl (d_hull_New (l1 := []) (l2 := []) (qs := (npts zs N)) isInt_zero isInt_zero (by decide) (by decide) (qs_0.mono (by omega)) (isPts_n (fun x hx => ⟨(hgood x hx).1, (hgood x hx).2.mono (by omega) (by omega)⟩)) hgood (by omega) he0) rfl fun r_ B_ hr_ => ?_
              obtain ⟨g, rfl, rfl⟩ := hr_
              refine w_ (p_move rfl rfl) ?_
              refine w_ (p_extract rfl rfl rfl) ?_
              refine w_ (p_extract rfl rfl rfl) ?_
              refine w_ (p_assign rfl rfl) ?_
              refine w_ (p_assign rfl rfl) ?_
              refine aw_nil ?_
              refine ac_seq ?_
              refine ac_seq ?_
              refine ac_reg ?_
              refine w_ (p_move rfl rfl) ?_
              refine w_ (p_len (m := ((npts zs N)).length) Tryz.runUnderlying22 rfl (rlen_pts _) rfl) ?_
              refine w_ (p_cmp rfl rfl rfl rfl) ?_
              refine aw_nil ?_
              refine ac_f rfl (decide_eq_false (by omega)) ?_
              refine ac_skip ?_
              refine ac_seq ?_
              refine ac_seq ?_
              refine ac_reg ?_
              refine w_ (p_move rfl rfl) ?_
              refine w_ (p_len (m := ((npts zs N)).length) Tryz.runUnderlying22 rfl (rlen_pts _) rfl) ?_
              refine w_ (p_move rfl rfl) ?_
              refine aw_nil ?_
              refine ac_block ?_
              refine ac_pick [5, 8, 9, 79, 80] rfl ?_
              refine ac_loop (fun m L B => ∃ i, i ≤ N ∧ (∀ k j, k < j → j < i → (npt zs k).id ≠ (npt zs j).id) ∧ m = N - i ∧ L = [(5, .one (pts ((npts zs N)))), (8, .one (.ow g 0)), (9, .one (.int .i64 0)), (79, .one (.int .i64 (((((npts zs N)).length : Nat) : Int)))), (80, .one (.int .i64 (((i : Nat) : Int))))] ∧ B = [.blk g 215 [.bool true, pl ([-((ratOf 0 0)).num, (((ratOf 0 0)).den : Int)]), sg ((((ratOf 0 0))).num), mg ((((ratOf 0 0))).num), sg (((((ratOf 0 0))).den : Int)), mg (((((ratOf 0 0))).den : Int)), sg ((((ratOf 0 0))).num), mg ((((ratOf 0 0))).num), sg (((((ratOf 0 0))).den : Int)), mg (((((ratOf 0 0))).den : Int)), wts ((sortC (hullC ((ratOf 0 0)) ((newL [] (npts zs N)).1)))), .int .i64 0, pts ((newL [] (npts zs N)).1), pts ((hcorners ((ratOf 0 0)) ((newL [] (npts zs N)).1)))]]) (m := _) ⟨0, Nat.zero_le _, fun k j _ hj => absurd hj (Nat.not_lt_zero _), rfl, rfl, rfl⟩ ?_
              rintro m L B ⟨i, hp0, hp1, hm, rfl, rfl⟩
              by_cases h3 : i < N
              · skip
                refine ac_seq ?_
                refine ac_reg ?_
                refine w_ (p_cmp rfl rfl rfl rfl) ?_
                refine aw_nil ?_
                refine ac_seq ?_
                refine ac_t rfl (decide_eq_true (by omega)) ?_
                refine ac_skip ?_
                refine ac_seq ?_
                refine ac_block ?_
                refine ac_seq ?_
                refine ac_reg ?_
                refine w_ (p_move rfl rfl) ?_
                refine w_ (p_assign rfl rfl) ?_
                refine aw_nil ?_
                refine ac_seq ?_
                refine ac_reg ?_
                refine w_ (p_assign rfl rfl) ?_
                refine aw_nil ?_
                refine ac_block ?_
                refine ac_pick [5, 8, 9, 79, 80, 10, 11] rfl ?_
                refine ac_loop (fun m L B => ∃ k, k ≤ i ∧ (∀ a, a < k → (npt zs a).id ≠ (npt zs i).id) ∧ m = i - k ∧ L = [(5, .one (pts ((npts zs N)))), (8, .one (.ow g 0)), (9, .one (.int .i64 0)), (79, .one (.int .i64 (((((npts zs N)).length : Nat) : Int)))), (80, .one (.int .i64 (((i : Nat) : Int)))), (10, .one (.int .i64 (((i : Nat) : Int)))), (11, .one (.int .i64 (((k : Nat) : Int))))] ∧ B = [.blk g 215 [.bool true, pl ([-((ratOf 0 0)).num, (((ratOf 0 0)).den : Int)]), sg ((((ratOf 0 0))).num), mg ((((ratOf 0 0))).num), sg (((((ratOf 0 0))).den : Int)), mg (((((ratOf 0 0))).den : Int)), sg ((((ratOf 0 0))).num), mg ((((ratOf 0 0))).num), sg (((((ratOf 0 0))).den : Int)), mg (((((ratOf 0 0))).den : Int)), wts ((sortC (hullC ((ratOf 0 0)) ((newL [] (npts zs N)).1)))), .int .i64 0, pts ((newL [] (npts zs N)).1), pts ((hcorners ((ratOf 0 0)) ((newL [] (npts zs N)).1)))]]) (m := _) ⟨0, Nat.zero_le _, fun a ha => absurd ha (Nat.not_lt_zero _), rfl, rfl, rfl⟩ ?_
                rintro m L B ⟨k, hq0, hq1, hm, rfl, rfl⟩
                by_cases h4 : k < i
                · by_cases hid : (npt zs k).id = (npt zs i).id
                  · exact absurd hid ((npts_pw zs N).1 hpw k i (by omega) (by omega))
                  · skip
                    refine ac_seq ?_
                    refine ac_seq ?_
                    refine ac_reg ?_
                    refine w_ (p_move rfl rfl) ?_
                    refine w_ (p_move rfl rfl) ?_
                    refine w_ (p_cmp rfl rfl rfl rfl) ?_
                    refine aw_nil ?_
                    refine ac_t rfl (decide_eq_true (by omega)) ?_
                    refine ac_skip ?_
                    refine ac_seq ?_
                    refine ac_block ?_
                    refine ac_seq ?_
                    refine ac_draw mixed_ 10 [88, 89, 90, 91, 92, 93, 94, 95, 96, 97] [[], [], [0, 1], [2], [3], [], [], [5, 6], [7], [8]] [.one (pts ((npts zs N))), .one (.int .i64 (((k : Nat) : Int))), .one (.sh [pl (((npt zs k).c).x), pl (((npt zs k).c).y), sg (((npt zs k).c).d), mg (((npt zs k).c).d), .int .i64 ((npt zs k).id)]), .one (.sh [.int .i64 ((npt zs k).id)]), .one (.int .i64 ((npt zs k).id)), .one (pts ((npts zs N))), .one (.int .i64 (((i : Nat) : Int))), .one (.sh [pl (((npt zs i).c).x), pl (((npt zs i).c).y), sg (((npt zs i).c).d), mg (((npt zs i).c).d), .int .i64 ((npt zs i).id)]), .one (.sh [.int .i64 ((npt zs i).id)]), .one (.int .i64 ((npt zs i).id))] rfl rfl rfl ⟨p_move rfl rfl, p_move rfl rfl, p_index (k) Tryz.runUnderlying22 Tryz.sizeOf76 rfl rfl (rfl) (map_get (npts_get (by omega))) rfl rfl, p_fieldSh fa_76_1 rfl rfl rfl, p_loadSh Tryz.isAgg3 Tryz.sizeOf3 rfl rfl rfl rfl, p_move rfl rfl, p_move rfl rfl, p_index (i) Tryz.runUnderlying22 Tryz.sizeOf76 rfl rfl (rfl) (map_get (npts_get h3)) rfl rfl, p_fieldSh fa_76_1 rfl rfl rfl, p_loadSh Tryz.isAgg3 Tryz.sizeOf3 rfl rfl rfl rfl, trivial⟩ rfl ?_
                    refine w_ (p_cmp rfl rfl rfl rfl) ?_
                    refine aw_nil ?_
                    refine ac_f rfl (decide_eq_false hid) ?_
                    refine ac_skip ?_
                    refine ac_reg ?_
                    refine w_ (p_move rfl rfl) ?_
                    refine w_ (p_add (r := ((k + 1 : Nat) : Int)) rfl rfl (i64_is (by omega) (by omega)) rfl) ?_
                    refine w_ (p_assign rfl rfl) ?_
                    refine aw_pick [5, 8, 9, 79, 80, 10, 11] rfl ?_
                    refine aw_nil ?_
                    refine ⟨_, ?_, k + 1, by omega, fun a ha => by
                      rcases Nat.lt_or_ge a k with hak | hak
                      · exact hq1 a hak
                      · have : a = k := by omega
                        subst this; exact hid, rfl, rfl, rfl⟩
                    omega
                · have hki : k = i := by omega
                  rw [hki] at hq1
                  refine ac_seq ?_
                  refine ac_seq ?_
                  refine ac_reg ?_
                  refine w_ (p_move rfl rfl) ?_
                  refine w_ (p_move rfl rfl) ?_
                  refine w_ (p_cmp rfl rfl rfl rfl) ?_
                  refine aw_nil ?_
                  refine ac_f rfl (decide_eq_false (by omega)) ?_
                  refine ac_exit ?_
                  repeat refine seqQ_exit ?_
                  refine blkQ_here ?_
                  refine ac_reg ?_
                  refine w_ (p_add (r := ((i + 1 : Nat) : Int)) rfl rfl (i64_is (by omega) (by omega)) rfl) ?_
                  refine w_ (p_move rfl rfl) ?_
                  refine aw_pick [5, 8, 9, 79, 80] rfl ?_
                  refine aw_nil ?_
                  refine ⟨_, ?_, i + 1, by omega, fun a b hab hb => by
                    rcases Nat.lt_or_ge b i with hbi | hbi
                    · exact hp1 a b hab hbi
                    · have hb2 : b = i := by omega
                      subst hb2; exact hq1 a (by omega), rfl, rfl, rfl⟩
                  omega
              · skip
                refine ac_seq ?_
                refine ac_reg ?_
                refine w_ (p_cmp rfl rfl rfl rfl) ?_
                refine aw_nil ?_
                refine ac_seq ?_
                refine ac_f rfl (decide_eq_false (by omega)) ?_
                refine ac_exit ?_
                repeat refine seqQ_exit ?_
                refine blkQ_here ?_
                refine ac_seq ?_
                refine ac_seq ?_
                refine ac_reg ?_
                refine w_ (p_move rfl rfl) ?_
                refine w_ (p_cmp (b := false) rfl rfl rfl rfl) ?_
                refine w_ (p_move rfl rfl) ?_
                refine w_ ((p_grun rfl rfl (rfl) (p_move rfl rfl))) ?_
                refine w_ ((p_grun rfl rfl (rfl) (p_eqNil Tryz.runUnderlying143 rfl rfl rfl rfl rfl))) ?_
                refine w_ (p_pickF rfl (rfl) rfl rfl) ?_
                refine aw_nil ?_
                refine ac_f rfl (rfl) ?_
                refine ac_skip ?_
                refine ac_seq ?_
                refine ac_seq ?_
                refine ac_reg ?_
                refine w_ (p_move rfl rfl) ?_
                refine w_ (p_len (m := ((npts zs N)).length) Tryz.runUnderlying22 rfl (rlen_pts _) rfl) ?_
                refine w_ (p_assign rfl rfl) ?_
                refine aw_nil ?_
                refine ac_block ?_
                refine ac_slotEq 12 (y := .one (.int .i64 ((N : Nat) : Int))) rfl (by rw [npts_len]) ?_
                refine ac_pick [8, 12] rfl ?_
                refine ac_loop (fun m L B => ∃ i l1 ws y1, i ≤ 6 ∧ l1.length = i ∧ SortedP l1 ∧ GoodP l1 ∧ (∀ p ∈ l1, p.id < ((200 + i : Nat) : Int)) ∧ ws.length ≤ 100000 ∧ m = 6 - i ∧ L = [(8, .one (.ow g 0)), (12, .one (.int .i64 (((i : Nat) : Int))))] ∧ B = [.blk g 215 [.bool true, pl ([-((ratOf 0 0)).num, (((ratOf 0 0)).den : Int)]), sg ((((ratOf 0 0))).num), mg ((((ratOf 0 0))).num), sg (((((ratOf 0 0))).den : Int)), mg (((((ratOf 0 0))).den : Int)), sg ((((ratOf 0 0))).num), mg ((((ratOf 0 0))).num), sg (((((ratOf 0 0))).den : Int)), mg (((((ratOf 0 0))).den : Int)), wts ws, .int .i64 0, pts l1, y1]]) (m := _) ⟨N, (newL [] (npts zs N)).1, (sortC (hullC (ratOf 0 0) (newL [] (npts zs N)).1)), _, by omega, by rw [hln, npts_len], hso, fun a ha => hgood a ((newL_mem _ [] ha).resolve_right (by simp)), fun p hp => by have := npts_id hN8 p ((newL_mem _ [] hp).resolve_right (by simp)); omega, by rw [sortC_len]; exact hullC_le (ratOf 0 0) (newL [] (npts zs N)).1 (by omega), rfl, rfl, rfl⟩ ?_
                rintro m L B ⟨i, l1, ws, y1, hs0, hs1, hs2, hs3, hs4, hs5, hm, rfl, rfl⟩
                by_cases h5 : i < 6
                · skip
                  refine ac_seq ?_
                  refine ac_seq ?_
                  refine ac_reg ?_
                  refine w_ (p_move rfl rfl) ?_
                  refine w_ (p_cmp rfl rfl rfl rfl) ?_
                  refine aw_nil ?_
                  refine ac_t rfl (decide_eq_true (by omega)) ?_
                  refine ac_skip ?_
                  refine ac_seq ?_
                  refine ac_block ?_
                  refine ac_seq ?_
                  refine ac_reg ?_
                  refine w_ (p_move rfl rfl) ?_
                  refine w_ (p_call Tryz.func45 rfl rfl rfl rfl (d_curve_Still (by decide) (by decide)) rfl) ?_
                  refine w_ (p_move rfl rfl) ?_
                  refine w_ (p_add (r := ((200 + i : Nat) : Int)) rfl rfl (i64_is (by omega) (by omega)) rfl) ?_
                  refine w_ (p_build (bd_76) rfl rfl rfl rfl) ?_
                  refine a_calls (Bin := [.blk g 215 [.bool true, pl ([-((ratOf 0 0)).num, (((ratOf 0 0)).den : Int)]), sg ((((ratOf 0 0))).num), mg ((((ratOf 0 0))).num), sg (((((ratOf 0 0))).den : Int)), mg (((((ratOf 0 0))).den : Int)), sg ((((ratOf 0 0))).num), mg ((((ratOf 0 0))).num), sg (((((ratOf 0 0))).den : Int)), mg (((((ratOf 0 0))).den : Int)), wts ws, .int .i64 0, pts l1, y1]]) Tryz.func70 rfl rfl rfl rfl (d_hull_Put (isInts_n _) (isInts_n _) (isInt_n _) ((good_still (x := 0) (y := 0) (by decide) (by decide)).2.mono (by omega) (by omega)) (qs_0.mono (by omega)) hs3 (by omega) (by omega) ⟨Crv.nml _, (good_still (x := 0) (y := 0) (by decide) (by decide)).2.norm (by decide)⟩ (put_new hs2 (by omega) hs4)) rfl fun r_ B_ hr_ => ?_
                  obtain ⟨rfl, rfl⟩ := hr_
                  refine w_ (p_cmp (b := false) rfl rfl rfl rfl) ?_
                  refine aw_nil ?_
                  refine ac_f rfl (rfl) ?_
                  refine ac_skip ?_
                  refine ac_reg ?_
                  refine w_ (p_move rfl rfl) ?_
                  refine w_ (p_add (r := ((i + 1 : Nat) : Int)) rfl rfl (i64_is (by omega) (by omega)) rfl) ?_
                  refine w_ (p_assign rfl rfl) ?_
                  refine aw_pick [8, 12] rfl ?_
                  refine aw_nil ?_
                  refine ⟨_, ?_, i + 1, put l1 (Pt.mk (Crv.norm (Crv.mk (still 0 0).x (still 0 0).y (still 0 0).d)) ((200 + i : Nat) : Int)), (sortC (hullC (ratOf 0 0) (put l1 (Pt.mk (Crv.norm (Crv.mk (still 0 0).x (still 0 0).y (still 0 0).d)) ((200 + i : Nat) : Int))))), _, by omega, by rw [put_len]; omega, put_sorted hs2 (has_new hs2 hs4), fun a ha => (put_mem ha).elim (fun e => e ▸ ⟨Crv.nml _, (good_still (x := 0) (y := 0) (by decide) (by decide)).2.norm (by decide)⟩) (hs3 a), fun p hp => (put_mem hp).elim (fun e => by rw [e]; show ((200 + i : Nat) : Int) < _; omega) (fun hp => by have := hs4 p hp; omega), by rw [sortC_len]; exact hullC_le (ratOf 0 0) (put l1 (Pt.mk (Crv.norm (Crv.mk (still 0 0).x (still 0 0).y (still 0 0).d)) ((200 + i : Nat) : Int))) (by rw [put_len]; omega), rfl, rfl, rfl⟩
                  omega
                · skip
                  refine ac_seq ?_
                  refine ac_seq ?_
                  refine ac_reg ?_
                  refine w_ (p_move rfl rfl) ?_
                  refine w_ (p_cmp rfl rfl rfl rfl) ?_
                  refine aw_nil ?_
                  refine ac_f rfl (decide_eq_false (by omega)) ?_
                  refine ac_exit ?_
                  repeat refine seqQ_exit ?_
                  refine blkQ_here ?_
                  refine ac_seq ?_
                  refine ac_reg ?_
                  refine w_ (p_move rfl rfl) ?_
                  refine w_ (p_build (bd_76) rfl rfl rfl rfl) ?_
                  refine a_calls (Bin := [.blk g 215 [.bool true, pl ([-((ratOf 0 0)).num, (((ratOf 0 0)).den : Int)]), sg ((((ratOf 0 0))).num), mg ((((ratOf 0 0))).num), sg (((((ratOf 0 0))).den : Int)), mg (((((ratOf 0 0))).den : Int)), sg ((((ratOf 0 0))).num), mg ((((ratOf 0 0))).num), sg (((((ratOf 0 0))).den : Int)), mg (((((ratOf 0 0))).den : Int)), wts ws, .int .i64 0, pts l1, y1]]) Tryz.func70 rfl rfl rfl rfl (by have h9 := put_full (c := Crv.norm (Crv.mk [] [] 0)) (x := 300) hs2 (by omega) (fun p hp => by have := hs4 p hp; omega); have h := d_hull_PutE (g := g) (ev := 0) (ws := ws) (q := ratOf 0 0) (y1 := y1) (l := l1) (id := 300) (ll := []) (lx := []) (ly := []) (isInts_n []) (isInts_n []) isInt_zero cs_nil (by omega) (by rw [h9]; decide); rw [h9] at h; exact h) rfl fun r_ B_ hr_ => ?_
                  obtain ⟨rfl, rfl⟩ := hr_
                  refine w_ (p_cmp (b := true) rfl rfl rfl rfl) ?_
                  refine w_ (p_move rfl rfl) ?_
                  refine w_ ((p_grun rfl rfl (rfl) (p_move rfl rfl))) ?_
                  refine aw_grun rfl rfl (rfl) ?_
                  refine a_calls (Bin := [.blk g 215 [.bool true, pl ([-((ratOf 0 0)).num, (((ratOf 0 0)).den : Int)]), sg ((((ratOf 0 0))).num), mg ((((ratOf 0 0))).num), sg (((((ratOf 0 0))).den : Int)), mg (((((ratOf 0 0))).den : Int)), sg ((((ratOf 0 0))).num), mg ((((ratOf 0 0))).num), sg (((((ratOf 0 0))).den : Int)), mg (((((ratOf 0 0))).den : Int)), wts ws, .int .i64 0, pts l1, y1]]) Tryz.func71 rfl rfl rfl rfl (d_hull_Points (fun p hp => ⟨(hs3 p hp).1, (hs3 p hp).2.mono (by omega) (by omega)⟩) (by omega)) rfl fun r_ B_ hr_ => ?_
                  obtain ⟨rfl, rfl⟩ := hr_
                  refine w_ ((p_grun rfl rfl (rfl) (p_len (m := l1.length) Tryz.runUnderlying22 rfl (rlen_pts _) rfl))) ?_
                  refine w_ ((p_grun rfl rfl (rfl) (p_cmp rfl rfl rfl rfl))) ?_
                  refine w_ (p_pickT rfl (rfl) rfl rfl) ?_
                  refine w_ (p_move rfl rfl) ?_
                  refine w_ ((p_grun rfl rfl (decide_eq_true (by omega)) (p_call Tryz.func65 rfl rfl rfl rfl (d_law20_wakes) rfl))) ?_
                  refine w_ (p_pickT rfl (decide_eq_true (by omega)) rfl rfl) ?_
                  refine w_ (p_assign rfl rfl) ?_
                  refine aw_nil ?_
                  refine ac_ret ?_
                  exact retB_1 Tryz.results14 (rv_tmp rfl rfl) (rfl)
            · skip
              refine ac_seq ?_
              refine ac_reg ?_
              refine w_ (p_build (bd_57) rfl rfl rfl rfl) ?_
              refine w_ (p_move rfl rfl) ?_
              refine w_ (p_call Tryz.func69 rfl rfl rfl rfl (by have h := d_hull_NewE (l1 := []) (l2 := []) (qs := (npts zs N)) isInt_zero isInt_zero (by decide) (by decide) (qs_0.mono (by omega)) (isPts_n (fun x hx => ⟨(hgood x hx).1, (hgood x hx).2.mono (by omega) (by omega)⟩)) (by rw [npts_len]; omega) (by omega); rw [he6] at h; exact h) rfl) ?_
              refine w_ (p_move rfl rfl) ?_
              refine w_ (p_extract rfl rfl rfl) ?_
              refine w_ (p_extract rfl rfl rfl) ?_
              refine w_ (p_assign rfl rfl) ?_
              refine w_ (p_assign rfl rfl) ?_
              refine aw_nil ?_
              refine ac_seq ?_
              refine ac_seq ?_
              refine ac_reg ?_
              refine w_ (p_move rfl rfl) ?_
              refine w_ (p_len (m := ((npts zs N)).length) Tryz.runUnderlying22 rfl (rlen_pts _) rfl) ?_
              refine w_ (p_cmp rfl rfl rfl rfl) ?_
              refine aw_nil ?_
              refine ac_f rfl (decide_eq_false (by omega)) ?_
              refine ac_skip ?_
              refine ac_seq ?_
              refine ac_seq ?_
              refine ac_reg ?_
              refine w_ (p_move rfl rfl) ?_
              refine w_ (p_len (m := ((npts zs N)).length) Tryz.runUnderlying22 rfl (rlen_pts _) rfl) ?_
              refine w_ (p_move rfl rfl) ?_
              refine aw_nil ?_
              refine ac_block ?_
              refine ac_pick [5, 8, 9, 79, 80] rfl ?_
              refine ac_loop (fun m L B => ∃ i, i ≤ N ∧ (∀ k j, k < j → j < i → (npt zs k).id ≠ (npt zs j).id) ∧ m = N - i ∧ L = [(5, .one (pts ((npts zs N)))), (8, .one (.nilp)), (9, .one (.int .i64 6)), (79, .one (.int .i64 (((((npts zs N)).length : Nat) : Int)))), (80, .one (.int .i64 (((i : Nat) : Int))))] ∧ B = []) (m := _) ⟨0, Nat.zero_le _, fun k j _ hj => absurd hj (Nat.not_lt_zero _), rfl, rfl, rfl⟩ ?_
              rintro m L B ⟨i, hp0, hp1, hm, rfl, rfl⟩
              by_cases h3 : i < N
              · skip
                refine ac_seq ?_
                refine ac_reg ?_
                refine w_ (p_cmp rfl rfl rfl rfl) ?_
                refine aw_nil ?_
                refine ac_seq ?_
                refine ac_t rfl (decide_eq_true (by omega)) ?_
                refine ac_skip ?_
                refine ac_seq ?_
                refine ac_block ?_
                refine ac_seq ?_
                refine ac_reg ?_
                refine w_ (p_move rfl rfl) ?_
                refine w_ (p_assign rfl rfl) ?_
                refine aw_nil ?_
                refine ac_seq ?_
                refine ac_reg ?_
                refine w_ (p_assign rfl rfl) ?_
                refine aw_nil ?_
                refine ac_block ?_
                refine ac_pick [5, 8, 9, 79, 80, 10, 11] rfl ?_
                refine ac_loop (fun m L B => ∃ k, k ≤ i ∧ (∀ a, a < k → (npt zs a).id ≠ (npt zs i).id) ∧ m = i - k ∧ L = [(5, .one (pts ((npts zs N)))), (8, .one (.nilp)), (9, .one (.int .i64 6)), (79, .one (.int .i64 (((((npts zs N)).length : Nat) : Int)))), (80, .one (.int .i64 (((i : Nat) : Int)))), (10, .one (.int .i64 (((i : Nat) : Int)))), (11, .one (.int .i64 (((k : Nat) : Int))))] ∧ B = []) (m := _) ⟨0, Nat.zero_le _, fun a ha => absurd ha (Nat.not_lt_zero _), rfl, rfl, rfl⟩ ?_
                rintro m L B ⟨k, hq0, hq1, hm, rfl, rfl⟩
                by_cases h4 : k < i
                · by_cases hid : (npt zs k).id = (npt zs i).id
                  · skip
                    refine ac_seq ?_
                    refine ac_seq ?_
                    refine ac_reg ?_
                    refine w_ (p_move rfl rfl) ?_
                    refine w_ (p_move rfl rfl) ?_
                    refine w_ (p_cmp rfl rfl rfl rfl) ?_
                    refine aw_nil ?_
                    refine ac_t rfl (decide_eq_true (by omega)) ?_
                    refine ac_skip ?_
                    refine ac_seq ?_
                    refine ac_block ?_
                    refine ac_seq ?_
                    refine ac_draw mixed_ 10 [88, 89, 90, 91, 92, 93, 94, 95, 96, 97] [[], [], [0, 1], [2], [3], [], [], [5, 6], [7], [8]] [.one (pts ((npts zs N))), .one (.int .i64 (((k : Nat) : Int))), .one (.sh [pl (((npt zs k).c).x), pl (((npt zs k).c).y), sg (((npt zs k).c).d), mg (((npt zs k).c).d), .int .i64 ((npt zs k).id)]), .one (.sh [.int .i64 ((npt zs k).id)]), .one (.int .i64 ((npt zs k).id)), .one (pts ((npts zs N))), .one (.int .i64 (((i : Nat) : Int))), .one (.sh [pl (((npt zs i).c).x), pl (((npt zs i).c).y), sg (((npt zs i).c).d), mg (((npt zs i).c).d), .int .i64 ((npt zs i).id)]), .one (.sh [.int .i64 ((npt zs i).id)]), .one (.int .i64 ((npt zs i).id))] rfl rfl rfl ⟨p_move rfl rfl, p_move rfl rfl, p_index (k) Tryz.runUnderlying22 Tryz.sizeOf76 rfl rfl (rfl) (map_get (npts_get (by omega))) rfl rfl, p_fieldSh fa_76_1 rfl rfl rfl, p_loadSh Tryz.isAgg3 Tryz.sizeOf3 rfl rfl rfl rfl, p_move rfl rfl, p_move rfl rfl, p_index (i) Tryz.runUnderlying22 Tryz.sizeOf76 rfl rfl (rfl) (map_get (npts_get h3)) rfl rfl, p_fieldSh fa_76_1 rfl rfl rfl, p_loadSh Tryz.isAgg3 Tryz.sizeOf3 rfl rfl rfl rfl, trivial⟩ rfl ?_
                    refine w_ (p_cmp rfl rfl rfl rfl) ?_
                    refine aw_nil ?_
                    refine ac_t rfl (decide_eq_true hid) ?_
                    refine ac_seq ?_
                    refine ac_reg ?_
                    refine w_ (p_move rfl rfl) ?_
                    refine w_ (p_cmp (b := true) rfl rfl rfl rfl) ?_
                    refine w_ (p_move rfl rfl) ?_
                    refine w_ ((p_grun rfl rfl (rfl) (p_move rfl rfl))) ?_
                    refine w_ ((p_grun rfl rfl (rfl) (p_eqNil Tryz.runUnderlying143 rfl rfl rfl rfl rfl))) ?_
                    refine w_ (p_pickT rfl (rfl) rfl rfl) ?_
                    refine w_ (p_move rfl rfl) ?_
                    refine w_ ((p_grun rfl rfl (rfl) (p_call Tryz.func65 rfl rfl rfl rfl (d_law20_wakes) rfl))) ?_
                    refine w_ (p_pickT rfl (rfl) rfl rfl) ?_
                    refine w_ (p_assign rfl rfl) ?_
                    refine aw_nil ?_
                    refine ac_ret ?_
                    exact retB_1 Tryz.results14 (rv_tmp rfl rfl) (rfl)
                  · skip
                    refine ac_seq ?_
                    refine ac_seq ?_
                    refine ac_reg ?_
                    refine w_ (p_move rfl rfl) ?_
                    refine w_ (p_move rfl rfl) ?_
                    refine w_ (p_cmp rfl rfl rfl rfl) ?_
                    refine aw_nil ?_
                    refine ac_t rfl (decide_eq_true (by omega)) ?_
                    refine ac_skip ?_
                    refine ac_seq ?_
                    refine ac_block ?_
                    refine ac_seq ?_
                    refine ac_draw mixed_ 10 [88, 89, 90, 91, 92, 93, 94, 95, 96, 97] [[], [], [0, 1], [2], [3], [], [], [5, 6], [7], [8]] [.one (pts ((npts zs N))), .one (.int .i64 (((k : Nat) : Int))), .one (.sh [pl (((npt zs k).c).x), pl (((npt zs k).c).y), sg (((npt zs k).c).d), mg (((npt zs k).c).d), .int .i64 ((npt zs k).id)]), .one (.sh [.int .i64 ((npt zs k).id)]), .one (.int .i64 ((npt zs k).id)), .one (pts ((npts zs N))), .one (.int .i64 (((i : Nat) : Int))), .one (.sh [pl (((npt zs i).c).x), pl (((npt zs i).c).y), sg (((npt zs i).c).d), mg (((npt zs i).c).d), .int .i64 ((npt zs i).id)]), .one (.sh [.int .i64 ((npt zs i).id)]), .one (.int .i64 ((npt zs i).id))] rfl rfl rfl ⟨p_move rfl rfl, p_move rfl rfl, p_index (k) Tryz.runUnderlying22 Tryz.sizeOf76 rfl rfl (rfl) (map_get (npts_get (by omega))) rfl rfl, p_fieldSh fa_76_1 rfl rfl rfl, p_loadSh Tryz.isAgg3 Tryz.sizeOf3 rfl rfl rfl rfl, p_move rfl rfl, p_move rfl rfl, p_index (i) Tryz.runUnderlying22 Tryz.sizeOf76 rfl rfl (rfl) (map_get (npts_get h3)) rfl rfl, p_fieldSh fa_76_1 rfl rfl rfl, p_loadSh Tryz.isAgg3 Tryz.sizeOf3 rfl rfl rfl rfl, trivial⟩ rfl ?_
                    refine w_ (p_cmp rfl rfl rfl rfl) ?_
                    refine aw_nil ?_
                    refine ac_f rfl (decide_eq_false hid) ?_
                    refine ac_skip ?_
                    refine ac_reg ?_
                    refine w_ (p_move rfl rfl) ?_
                    refine w_ (p_add (r := ((k + 1 : Nat) : Int)) rfl rfl (i64_is (by omega) (by omega)) rfl) ?_
                    refine w_ (p_assign rfl rfl) ?_
                    refine aw_pick [5, 8, 9, 79, 80, 10, 11] rfl ?_
                    refine aw_nil ?_
                    refine ⟨_, ?_, k + 1, by omega, fun a ha => by
                      rcases Nat.lt_or_ge a k with hak | hak
                      · exact hq1 a hak
                      · have : a = k := by omega
                        subst this; exact hid, rfl, rfl, rfl⟩
                    omega
                · have hki : k = i := by omega
                  rw [hki] at hq1
                  refine ac_seq ?_
                  refine ac_seq ?_
                  refine ac_reg ?_
                  refine w_ (p_move rfl rfl) ?_
                  refine w_ (p_move rfl rfl) ?_
                  refine w_ (p_cmp rfl rfl rfl rfl) ?_
                  refine aw_nil ?_
                  refine ac_f rfl (decide_eq_false (by omega)) ?_
                  refine ac_exit ?_
                  repeat refine seqQ_exit ?_
                  refine blkQ_here ?_
                  refine ac_reg ?_
                  refine w_ (p_add (r := ((i + 1 : Nat) : Int)) rfl rfl (i64_is (by omega) (by omega)) rfl) ?_
                  refine w_ (p_move rfl rfl) ?_
                  refine aw_pick [5, 8, 9, 79, 80] rfl ?_
                  refine aw_nil ?_
                  refine ⟨_, ?_, i + 1, by omega, fun a b hab hb => by
                    rcases Nat.lt_or_ge b i with hbi | hbi
                    · exact hp1 a b hab hbi
                    · have hb2 : b = i := by omega
                      subst hb2; exact hq1 a (by omega), rfl, rfl, rfl⟩
                  omega
              · exact absurd ((npts_pw zs N).2 (by rw [show N = i by omega]; exact hp1)) hpw

end Orr

namespace Orr
open Go Go.Proofs
variable {H : Type} {enc : TypeId × Value → H} {w : World} {base : Nat} {spare : Nat → Bool} {held : Bool}
theorem slice_one {P : Program} {t e fuel : Nat} {cs : List Value} {x : DataW H × List MemPlace} (ht : P.underlying t = some (.slice e)) (h : DataW.trod enc P w base spare held fuel t cs = some x) : ∃ v, cs = [v] ∧ one v = true := by
  rcases DataW.trod_slice ht h with ⟨rfl, _⟩ | ⟨a, len, cap, _, _, _, _, rfl, _⟩
  · exact ⟨_, rfl, rfl⟩
  · exact ⟨_, rfl, rfl⟩
theorem get_some {α : Type} {l : List α} {n i : Nat} (h : l.length = n) (hi : i < n) : ∃ x, l[i]? = some x := ⟨l[i]'(by omega), List.getElem?_eq_getElem (by omega)⟩
set_option maxRecDepth 20000 in
theorem pt_read {fuel : Nat} {cs : List Value} {x : DataW H × List MemPlace} (h : DataW.trod enc Tryz.prog w base spare held fuel 76 cs = some x) :
    ∃ v0 v1 v2 v3 id, cs = [v0, v1, v2, v3, .int .i64 id] ∧ one v0 = true ∧ one v1 = true ∧ one v2 = true ∧ one v3 = true ∧ (Lit.int .i64 id).wf = true := by
  obtain ⟨xs, n, _, _, hl, hxs, hf⟩ := DataW.trod_struct Tryz.underlying76 h
  have hl : cs.length = 5 := hl
  match cs, hl with
  | [v0, v1, v2, v3, v4], _ =>
    obtain ⟨z, hz⟩ := get_some (i := 1) hxs (by decide)
    have h1 := hf 1 _ rfl
    rw [hz] at h1
    obtain ⟨id, e1, _, hw⟩ := DataW.trod_int Tryz.underlying3 h1
    have e1 : [v4] = [Value.int .i64 id] := e1
    injection e1 with e1
    subst e1
    obtain ⟨z, hz⟩ := get_some (i := 0) hxs (by decide)
    have h0 := hf 0 _ rfl
    rw [hz] at h0
    obtain ⟨ys, n2, _, _, _, hys, hg⟩ := DataW.trod_struct Tryz.underlying74 h0
    obtain ⟨z0, hz0⟩ := get_some (i := 0) hys (by decide)
    obtain ⟨z1, hz1⟩ := get_some (i := 1) hys (by decide)
    obtain ⟨z2, hz2⟩ := get_some (i := 2) hys (by decide)
    have g0 := hg 0 _ rfl
    have g1 := hg 1 _ rfl
    have g2 := hg 2 _ rfl
    rw [hz0] at g0; rw [hz1] at g1; rw [hz2] at g2
    obtain ⟨u0, e0, o0⟩ := slice_one Tryz.underlying52 g0
    obtain ⟨u1, e1, o1⟩ := slice_one Tryz.underlying52 g1
    obtain ⟨qs, n3, _, _, _, hqs, hk⟩ := DataW.trod_struct Tryz.underlying55 g2
    obtain ⟨z3, hz3⟩ := get_some (i := 0) hqs (by decide)
    obtain ⟨z4, hz4⟩ := get_some (i := 1) hqs (by decide)
    have k0 := hk 0 _ rfl
    have k1 := hk 1 _ rfl
    rw [hz3] at k0; rw [hz4] at k1
    obtain ⟨b, e2, _⟩ := DataW.trod_bool Tryz.underlying4 k0
    obtain ⟨u3, e3, o3⟩ := slice_one Tryz.underlying53 k1
    have a0 : v0 = u0 := (List.cons.inj (show [v0] = [u0] from e0)).1
    have a1 : v1 = u1 := (List.cons.inj (show [v1] = [u1] from e1)).1
    have a2 : v2 = .bool b := (List.cons.inj (show [v2] = [Value.bool b] from e2)).1
    have a3 : v3 = u3 := (List.cons.inj (show [v3] = [u3] from e3)).1
    subst a0 a1 a2 a3
    exact ⟨_, _, _, _, id, rfl, o0, o1, rfl, o3, hw⟩
end Orr
