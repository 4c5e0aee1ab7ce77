/- Package curve, told in data. Package crowd, told in data. Packages alg (rational times), germ, pred, told in data. Arrays within structs, comparison of structs of whole numbers, and of pointers with nil. -/
import Derived.Test.YtaffmkgbfgjgeaaGreatPart06
import Derived.DeepKeys
set_option linter.all false

namespace Orr
open Go Go.Proofs
theorem map_getD_div (p : List Int) (g : Int) : (List.range p.length).map (fun k => p.getD k 0 / g) = p.map (· / g) := by
  conv => rhs; rw [← map_getD p]
  simp

theorem d_curve_over {p : List Int} {g : Int} (hl : p.length < 274877906944) (hp : Bd 4294967295 p) (hg : isz g ≤ 4294967295) (h0 : g ≠ 0) (hd : ∀ z ∈ p, z % g = 0) : Does Tryz.prog 266 [.one (pl p), .agg [sg g, mg g]] (.one (pl (trim (p.map (· / g))))) := by
  refine does_ (n := 30) Tryz.func266 rfl Tryz.ntmps266 rfl ?_
  refine ac_seq ?_
  refine ac_reg ?_
  refine w_ (p_boxS rfl rfl rfl rfl) ?_
  refine w_ (p_assign rfl rfl) ?_
  refine aw_nil ?_
  refine ac_seq ?_
  refine ac_reg ?_
  refine w_ (p_move rfl rfl) ?_
  refine w_ (p_len (m := p.length) Tryz.runUnderlying52 rfl (rlen_pl _) rfl) ?_
  refine a_make (p.length) Tryz.runUnderlying52 Tryz.typeInfo55 rfl Tryz.sizeOf55 Tryz.zeroValue55 rfl rfl rfl rfl rfl rfl (rfl) (rfl) (hl) rfl fun r1 => ?_
  refine aw_zeros (ls' := (tab (fun k => p.getD k 0 / g) p.length 0).map ofI) 0 rfl rfl (by rw [← tab_zero]; exact zeros_I _) ?_
  refine w_ (p_assign rfl rfl) ?_
  refine aw_nil ?_
  refine ac_seq ?_
  refine ac_seq ?_
  refine ac_reg ?_
  refine w_ (p_move rfl rfl) ?_
  refine w_ (p_len (m := p.length) Tryz.runUnderlying52 rfl (rlen_pl _) rfl) ?_
  refine w_ (p_move rfl rfl) ?_
  refine aw_nil ?_
  refine ac_block ?_
  refine ac_pick [3, 5, 11, 12, 13] rfl ?_
  refine ac_loop (fun m L B => ∃ i, i ≤ p.length ∧ m = p.length - i ∧ L = [(3, .one (.sh [sg g, mg g])), (5, .one (.orow r1 2 0 p.length)), (11, .one (pl p)), (12, .one (.int .i64 (((p.length : Nat) : Int)))), (13, .one (.int .i64 ((i : Int))))] ∧ B = [.row r1 55 2 ((tab (fun k => p.getD k 0 / g) p.length i).map ofI)]) (m := _) ⟨0, Nat.zero_le _, rfl, rfl, rfl⟩ ?_
  rintro m L B ⟨i, hp0, hm, rfl, rfl⟩
  by_cases hlt : i < p.length
  · skip
    refine ac_seq ?_
    refine ac_reg ?_
    refine w_ (p_cmp rfl rfl rfl rfl) ?_
    refine aw_nil ?_
    refine ac_seq ?_
    refine ac_t rfl (decide_eq_true (by omega)) ?_
    refine ac_skip ?_
    refine ac_seq ?_
    refine ac_block ?_
    refine ac_seq ?_
    refine ac_reg ?_
    refine w_ (p_move rfl rfl) ?_
    refine w_ (p_index (i) Tryz.runUnderlying52 Tryz.sizeOf55 rfl rfl (rfl) (map_get (getD_some hlt)) rfl rfl) ?_
    refine w_ (p_loadSh Tryz.isAgg55 Tryz.sizeOf55 rfl rfl rfl rfl) ?_
    refine a_alloc Tryz.zeroValue55 rfl rfl fun g2 => ?_
    refine w_ (p_assign rfl rfl) ?_
    refine a_storeOw 0 Tryz.sizeOf55 rfl rfl rfl rfl rfl rfl rfl ?_
    refine aw_nil ?_
    refine ac_reg ?_
    refine w_ (p_move rfl rfl) ?_
    refine w_ (p_move rfl rfl) ?_
    refine w_ (p_loadOw 0 Tryz.isAgg55 Tryz.sizeOf55 rfl rfl rfl rfl rfl) ?_
    refine w_ (p_loadSh Tryz.isAgg55 Tryz.sizeOf55 rfl rfl rfl rfl) ?_
    refine w_ (p_call Tryz.func265 rfl rfl rfl rfl (d_whole_Exact (isInt_n _) (isInt_n _) (bd_getD hp i) (hg) (h0) (hd _ (List.mem_of_getElem? (getD_some hlt)))) rfl) ?_
    refine w_ (p_move rfl rfl) ?_
    refine w_ (p_extract rfl rfl rfl) ?_
    refine w_ (p_extract rfl rfl rfl) ?_
    refine w_ (p_indexO (i) Tryz.runUnderlying52 Tryz.sizeOf55 rfl rfl (rfl) (by omega) rfl) ?_
    refine a_storeO (ls2 := (tab (fun k => p.getD k 0 / g) p.length (i + 1)).map ofI) 1 Tryz.sizeOf55 rfl rfl rfl rfl rfl rfl (by rw [Nat.zero_add]; exact map_get (tab_get _ hlt)) rfl (by rw [Nat.zero_add]; exact (set_map ofI _ i (p.getD i 0 / g)).trans (by rw [← tab_set _ hlt])) ?_
    refine aw_nil ?_
    refine ac_reg ?_
    refine w_ (p_add (r := ((i + 1 : Nat) : Int)) rfl rfl (i64_is (by omega) (by omega)) rfl) ?_
    refine w_ (p_move rfl rfl) ?_
    refine aw_pick [3, 5, 11, 12, 13] rfl ?_
    refine aw_drop 1 rfl ?_
    refine aw_nil ?_
    refine ⟨_, ?_, i + 1, by omega, rfl, rfl, rfl⟩
    omega
  · skip
    refine ac_seq ?_
    refine ac_reg ?_
    refine w_ (p_cmp rfl rfl rfl rfl) ?_
    refine aw_nil ?_
    refine ac_seq ?_
    refine ac_f rfl (decide_eq_false (by omega)) ?_
    refine ac_exit ?_
    repeat refine seqQ_exit ?_
    refine blkQ_here ?_
    refine ac_seq ?_
    refine ac_reg ?_
    refine w_ (p_move rfl rfl) ?_
    have htab : (tab (fun k => p.getD k 0 / g) p.length i) = p.map (· / g) := by rw [show i = p.length from by omega, tab_all, map_getD_div]
    refine aw_pub 0 [28] rfl (allAre1 rfl) (by rw [List.length_map, tab_len _ (by omega)]) (by rw [List.length_map, tab_len _ (by omega)]; omega) rfl ?_
    refine w_ (p_call Tryz.func189 rfl rfl rfl rfl (d_poly_NormN (by rw [tab_len _ (by omega)]; exact hl) (by rw [htab]; exact bd_div hp g)) rfl) ?_
    refine w_ (p_assign rfl rfl) ?_
    refine aw_nil ?_
    refine ac_ret ?_
    exact retB_1 Tryz.results266 (rv_tmp rfl rfl) (by rw [htab])

set_option maxRecDepth 20000 in
theorem d_curve_norm {lx ly : List (List LV)} {px py : List Int} {b : Bool} {l : List Nat} {d : Int} (hx : IsInts lx px) (hy : IsInts ly py) (hd : IsInt (.bool b) (u32r l) d) (hk : Cs 4294967294 1073741824 (Crv.mk px py d)) : Does Tryz.prog 190 [.agg [.row lx, .row ly, .bool b, u32r l]] (.agg [pl (((Crv.norm (Crv.mk px py d))).x), pl (((Crv.norm (Crv.mk px py d))).y), sg (((Crv.norm (Crv.mk px py d))).d), mg (((Crv.norm (Crv.mk px py d))).d)]) := by
  refine does_ (n := 44) Tryz.func190 rfl Tryz.ntmps190 rfl ?_
  have hlx := hk.lx
  have hly := hk.ly
  simp only at hlx hly
  have htx := trim_len px
  have hty := trim_len py
  have hd1 : isz (Crv.mk px py d).d' ≤ 4294967295 := Nat.le_trans (isz_d' hk.d (by omega)) (by omega)
  have hg1 := Crv.isz_g (Crv.mk px py d) hd1
  have hgs : isz ((gcdL ((Crv.mk px py d).d' :: (trim px ++ trim py)) : Nat) : Int) ≤ 4294967295 := by
    have := hg1
    unfold Crv.g at this
    split at this
    · rwa [isz_neg] at this
    · exact this
  by_cases h0 : d = 0
  · skip
    rcases Int.lt_or_gt_of_ne (Crv.d'_ne (Crv.mk px py d)) with hneg | hpos
    · skip
      refine ac_seq ?_
      refine ac_reg ?_
      refine w_ (p_boxS rfl rfl rfl rfl) ?_
      refine a_alloc Tryz.zeroValue74 rfl rfl fun g1 => ?_
      refine aw_nil ?_
      refine ac_seq ?_
      refine ac_drawA mixed_ 10 [7, 8, 9, 10, 11, 12, 13, 14, 15, 5] [[], [0], [1], [], [3], [4], [], [6], [7], []] [.one (.sh [.row lx, .row ly, .bool b, u32r l]), .one (.row lx), .one (pl (trim px)), .one (.sh [.row ly, .bool b, u32r l]), .one (.row ly), .one (pl (trim py)), .one (.sh [.bool b, u32r l]), .agg [.bool b, u32r l], .agg [sg d, mg d], .un] [(9, 55, [.bool false, .slice none 0 0])] [[.bool false, .nils]] rfl rfl rfl (by decide) ⟨rfl, trivial⟩ rfl ⟨p_fieldSh fa_74_0 rfl rfl rfl, p_loadSh Tryz.isAgg52 Tryz.sizeOf52 rfl rfl rfl rfl, p_call Tryz.func189 rfl rfl rfl rfl (d_poly_Norm hx (by omega) (bd_mono hk.x (by omega))) rfl, p_fieldSh fa_74_1 rfl rfl rfl, p_loadSh Tryz.isAgg52 Tryz.sizeOf52 rfl rfl rfl rfl, p_call Tryz.func189 rfl rfl rfl rfl (d_poly_Norm hy (by omega) (bd_mono hk.y (by omega))) rfl, p_fieldSh fa_74_2 rfl rfl rfl, p_loadSh Tryz.isAgg55 Tryz.sizeOf55 rfl rfl rfl rfl, p_call Tryz.func251 rfl rfl rfl rfl (d_whole_Norm hd (Nat.le_trans hk.d (by omega))) rfl, al_alloc Tryz.zeroValue55 rfl, trivial⟩ fun g2 => ⟨_, _, rfl, rfl, ?_⟩
      refine w_ (p_assign rfl rfl) ?_
      refine w_ (p_assign rfl rfl) ?_
      refine a_storeOw 0 Tryz.sizeOf55 rfl rfl rfl rfl rfl rfl rfl ?_
      refine aw_nil ?_
      refine ac_seq ?_
      refine ac_seq ?_
      refine ac_reg ?_
      refine w_ (p_loadOw 0 Tryz.isAgg55 Tryz.sizeOf55 rfl rfl rfl rfl rfl) ?_
      refine w_ (p_call Tryz.func252 rfl rfl rfl rfl ((d_ZeroN _) ) rfl) ?_
      refine aw_nil ?_
      refine ac_t rfl (decide_eq_true h0) ?_
      refine ac_reg ?_
      refine w_ (p_call Tryz.func191 rfl rfl rfl rfl (d_whole_Of (by omega)) rfl) ?_
      refine a_storeOw 0 Tryz.sizeOf55 rfl rfl rfl rfl rfl rfl rfl ?_
      refine aw_blk (ys := ofI ((Crv.mk px py d).d')) 0 rfl rfl (by unfold Crv.d'; rw [if_pos h0]) ?_
      refine aw_nil ?_
      refine ac_seq ?_
      refine ac_reg ?_
      refine w_ (p_loadOw 0 Tryz.isAgg55 Tryz.sizeOf55 rfl rfl rfl rfl rfl) ?_
      refine a_lit Tryz.runUnderlying51 Tryz.sizeOf55 Tryz.zeroValue55 rfl rfl rfl rfl rfl rfl rfl rfl rfl rfl fun r3 => ?_
      refine w_ (p_move rfl rfl) ?_
      refine a_append (ls2 := ((Crv.mk px py d).d' :: trim px).map ofI) (m2 := 1 + (trim px).length) 0 Tryz.runUnderlying51 Tryz.runUnderlying52 Tryz.typeInfo55 rfl rfl Tryz.sizeOf55 Tryz.zeroValue55 rfl rfl rfl rfl rfl rfl rfl (Nat.le_refl _) (map_w _ (fun _ => rfl)) (map_f _ (fun _ => rfl)) (by rw [List.length_map]; omega) (rfl) (by rw [List.length_map]) fun r4 => ?_
      refine w_ (p_move rfl rfl) ?_
      refine a_append (ls2 := ((Crv.mk px py d).d' :: (trim px ++ trim py)).map ofI) (m2 := 1 + (trim px).length + (trim py).length) 0 Tryz.runUnderlying51 Tryz.runUnderlying52 Tryz.typeInfo55 rfl rfl Tryz.sizeOf55 Tryz.zeroValue55 rfl rfl rfl rfl rfl rfl rfl (by simp; omega) (map_w _ (fun _ => rfl)) (map_f _ (fun _ => rfl)) (by rw [List.length_map]; omega) (by rw [List.take_of_length_le (by simp; omega)]; simp) (by rw [List.length_map]) fun r5 => ?_
      refine aw_pub 0 [24] rfl (allAre1 rfl) (by simp; omega) (by simp; omega) rfl ?_
      refine w_ (p_call Tryz.func264 rfl rfl rfl rfl (d_whole_Gcd (isInts_n ((Crv.mk px py d).d' :: (trim px ++ trim py))) (by
          intro z hz
          rcases List.mem_cons.1 hz with rfl | hz
          · exact hd1
          · rcases List.mem_append.1 hz with hz | hz
            · exact Nat.le_trans (bd_trim hk.x z hz) (by omega)
            · exact Nat.le_trans (bd_trim hk.y z hz) (by omega))) rfl) ?_
      refine a_alloc Tryz.zeroValue55 rfl rfl fun g6 => ?_
      refine a_storeOw 0 Tryz.sizeOf55 rfl rfl rfl rfl rfl rfl rfl ?_
      refine aw_nil ?_
      refine ac_seq ?_
      refine ac_seq ?_
      refine ac_reg ?_
      refine w_ (p_fieldOw fa_55_0 rfl rfl) ?_
      refine w_ (p_loadOw 1 Tryz.isAgg4 Tryz.sizeOf4 rfl rfl rfl rfl rfl) ?_
      refine aw_nil ?_
      refine ac_t rfl (decide_eq_true hneg) ?_
      refine ac_reg ?_
      refine w_ (p_loadOw 0 Tryz.isAgg55 Tryz.sizeOf55 rfl rfl rfl rfl rfl) ?_
      refine w_ (p_call Tryz.func194 rfl rfl rfl rfl (d_whole_Neg (isInt_n _) (hgs)) rfl) ?_
      refine a_storeOw 0 Tryz.sizeOf55 rfl rfl rfl rfl rfl rfl rfl ?_
      refine aw_blk (ys := ofI ((Crv.mk px py d).g)) 0 rfl rfl (by unfold Crv.g; rw [if_pos hneg]) ?_
      refine aw_nil ?_
      refine ac_seq ?_
      refine ac_reg ?_
      refine w_ (p_loadOw 1 Tryz.isAgg55 Tryz.sizeOf55 rfl rfl rfl rfl rfl) ?_
      refine w_ (p_loadOw 0 Tryz.isAgg55 Tryz.sizeOf55 rfl rfl rfl rfl rfl) ?_
      refine w_ (p_call Tryz.func265 rfl rfl rfl rfl (d_whole_Exact (isInt_n _) (isInt_n _) (hd1) (hg1) (Crv.g_ne _) (Crv.g_dvd _ _ (List.mem_cons_self ..))) rfl) ?_
      refine w_ (p_move rfl rfl) ?_
      refine w_ (p_extract rfl rfl rfl) ?_
      refine w_ (p_extract rfl rfl rfl) ?_
      refine a_storeOw 1 Tryz.sizeOf55 rfl rfl rfl rfl rfl rfl rfl ?_
      refine aw_nil ?_
      refine ac_seq ?_
      refine ac_draw mixed_ 7 [36, 37, 38, 39, 40, 41, 42] [[], [], [0, 1], [], [], [3, 4], []] [.one (pl (trim px)), .agg [sg ((Crv.mk px py d).g), mg ((Crv.mk px py d).g)], .one (pl (trim ((trim px).map (· / ((Crv.mk px py d).g))))), .one (pl (trim py)), .agg [sg ((Crv.mk px py d).g), mg ((Crv.mk px py d).g)], .one (pl (trim ((trim py).map (· / ((Crv.mk px py d).g))))), .agg [sg (((Crv.mk px py d).d') / ((Crv.mk px py d).g)), mg (((Crv.mk px py d).d') / ((Crv.mk px py d).g))]] rfl rfl rfl ⟨p_move rfl rfl, p_loadOw 0 Tryz.isAgg55 Tryz.sizeOf55 rfl rfl rfl rfl rfl, p_call Tryz.func266 rfl rfl rfl rfl (d_curve_over (by omega) (bd_mono (bd_trim hk.x) (by omega)) (hg1) (Crv.g_ne _) (fun z hz => Crv.g_dvd (Crv.mk px py d) z (by simp [hz]))) rfl, p_move rfl rfl, p_loadOw 0 Tryz.isAgg55 Tryz.sizeOf55 rfl rfl rfl rfl rfl, p_call Tryz.func266 rfl rfl rfl rfl (d_curve_over (by omega) (bd_mono (bd_trim hk.y) (by omega)) (hg1) (Crv.g_ne _) (fun z hz => Crv.g_dvd (Crv.mk px py d) z (by simp [hz]))) rfl, p_loadOw 1 Tryz.isAgg55 Tryz.sizeOf55 rfl rfl rfl rfl rfl, trivial⟩ rfl ?_
      refine w_ (p_build (bd_74) rfl rfl rfl rfl) ?_
      refine a_storeOw 2 Tryz.sizeOf74 rfl rfl rfl rfl rfl rfl rfl ?_
      refine aw_nil ?_
      refine ac_ret ?_
      exact retB_1 Tryz.results190 (rv_cell 2 Tryz.isAgg74 Tryz.sizeOf74 rfl rfl rfl rfl rfl) (rfl)
    · skip
      refine ac_seq ?_
      refine ac_reg ?_
      refine w_ (p_boxS rfl rfl rfl rfl) ?_
      refine a_alloc Tryz.zeroValue74 rfl rfl fun g7 => ?_
      refine aw_nil ?_
      refine ac_seq ?_
      refine ac_drawA mixed_ 10 [7, 8, 9, 10, 11, 12, 13, 14, 15, 5] [[], [0], [1], [], [3], [4], [], [6], [7], []] [.one (.sh [.row lx, .row ly, .bool b, u32r l]), .one (.row lx), .one (pl (trim px)), .one (.sh [.row ly, .bool b, u32r l]), .one (.row ly), .one (pl (trim py)), .one (.sh [.bool b, u32r l]), .agg [.bool b, u32r l], .agg [sg d, mg d], .un] [(9, 55, [.bool false, .slice none 0 0])] [[.bool false, .nils]] rfl rfl rfl (by decide) ⟨rfl, trivial⟩ rfl ⟨p_fieldSh fa_74_0 rfl rfl rfl, p_loadSh Tryz.isAgg52 Tryz.sizeOf52 rfl rfl rfl rfl, p_call Tryz.func189 rfl rfl rfl rfl (d_poly_Norm hx (by omega) (bd_mono hk.x (by omega))) rfl, p_fieldSh fa_74_1 rfl rfl rfl, p_loadSh Tryz.isAgg52 Tryz.sizeOf52 rfl rfl rfl rfl, p_call Tryz.func189 rfl rfl rfl rfl (d_poly_Norm hy (by omega) (bd_mono hk.y (by omega))) rfl, p_fieldSh fa_74_2 rfl rfl rfl, p_loadSh Tryz.isAgg55 Tryz.sizeOf55 rfl rfl rfl rfl, p_call Tryz.func251 rfl rfl rfl rfl (d_whole_Norm hd (Nat.le_trans hk.d (by omega))) rfl, al_alloc Tryz.zeroValue55 rfl, trivial⟩ fun g8 => ⟨_, _, rfl, rfl, ?_⟩
      refine w_ (p_assign rfl rfl) ?_
      refine w_ (p_assign rfl rfl) ?_
      refine a_storeOw 0 Tryz.sizeOf55 rfl rfl rfl rfl rfl rfl rfl ?_
      refine aw_nil ?_
      refine ac_seq ?_
      refine ac_seq ?_
      refine ac_reg ?_
      refine w_ (p_loadOw 0 Tryz.isAgg55 Tryz.sizeOf55 rfl rfl rfl rfl rfl) ?_
      refine w_ (p_call Tryz.func252 rfl rfl rfl rfl ((d_ZeroN _) ) rfl) ?_
      refine aw_nil ?_
      refine ac_t rfl (decide_eq_true h0) ?_
      refine ac_reg ?_
      refine w_ (p_call Tryz.func191 rfl rfl rfl rfl (d_whole_Of (by omega)) rfl) ?_
      refine a_storeOw 0 Tryz.sizeOf55 rfl rfl rfl rfl rfl rfl rfl ?_
      refine aw_blk (ys := ofI ((Crv.mk px py d).d')) 0 rfl rfl (by unfold Crv.d'; rw [if_pos h0]) ?_
      refine aw_nil ?_
      refine ac_seq ?_
      refine ac_reg ?_
      refine w_ (p_loadOw 0 Tryz.isAgg55 Tryz.sizeOf55 rfl rfl rfl rfl rfl) ?_
      refine a_lit Tryz.runUnderlying51 Tryz.sizeOf55 Tryz.zeroValue55 rfl rfl rfl rfl rfl rfl rfl rfl rfl rfl fun r9 => ?_
      refine w_ (p_move rfl rfl) ?_
      refine a_append (ls2 := ((Crv.mk px py d).d' :: trim px).map ofI) (m2 := 1 + (trim px).length) 0 Tryz.runUnderlying51 Tryz.runUnderlying52 Tryz.typeInfo55 rfl rfl Tryz.sizeOf55 Tryz.zeroValue55 rfl rfl rfl rfl rfl rfl rfl (Nat.le_refl _) (map_w _ (fun _ => rfl)) (map_f _ (fun _ => rfl)) (by rw [List.length_map]; omega) (rfl) (by rw [List.length_map]) fun r10 => ?_
      refine w_ (p_move rfl rfl) ?_
      refine a_append (ls2 := ((Crv.mk px py d).d' :: (trim px ++ trim py)).map ofI) (m2 := 1 + (trim px).length + (trim py).length) 0 Tryz.runUnderlying51 Tryz.runUnderlying52 Tryz.typeInfo55 rfl rfl Tryz.sizeOf55 Tryz.zeroValue55 rfl rfl rfl rfl rfl rfl rfl (by simp; omega) (map_w _ (fun _ => rfl)) (map_f _ (fun _ => rfl)) (by rw [List.length_map]; omega) (by rw [List.take_of_length_le (by simp; omega)]; simp) (by rw [List.length_map]) fun r11 => ?_
      refine aw_pub 0 [24] rfl (allAre1 rfl) (by simp; omega) (by simp; omega) rfl ?_
      refine w_ (p_call Tryz.func264 rfl rfl rfl rfl (d_whole_Gcd (isInts_n ((Crv.mk px py d).d' :: (trim px ++ trim py))) (by
          intro z hz
          rcases List.mem_cons.1 hz with rfl | hz
          · exact hd1
          · rcases List.mem_append.1 hz with hz | hz
            · exact Nat.le_trans (bd_trim hk.x z hz) (by omega)
            · exact Nat.le_trans (bd_trim hk.y z hz) (by omega))) rfl) ?_
      refine a_alloc Tryz.zeroValue55 rfl rfl fun g12 => ?_
      refine a_storeOw 0 Tryz.sizeOf55 rfl rfl rfl rfl rfl rfl rfl ?_
      refine aw_blk (ys := ofI ((Crv.mk px py d).g)) 0 rfl rfl (by unfold Crv.g; rw [if_neg (by omega)]) ?_
      refine aw_nil ?_
      refine ac_seq ?_
      refine ac_seq ?_
      refine ac_reg ?_
      refine w_ (p_fieldOw fa_55_0 rfl rfl) ?_
      refine w_ (p_loadOw 1 Tryz.isAgg4 Tryz.sizeOf4 rfl rfl rfl rfl rfl) ?_
      refine aw_nil ?_
      refine ac_f rfl (decide_eq_false (by omega)) ?_
      refine ac_skip ?_
      refine ac_seq ?_
      refine ac_reg ?_
      refine w_ (p_loadOw 1 Tryz.isAgg55 Tryz.sizeOf55 rfl rfl rfl rfl rfl) ?_
      refine w_ (p_loadOw 0 Tryz.isAgg55 Tryz.sizeOf55 rfl rfl rfl rfl rfl) ?_
      refine w_ (p_call Tryz.func265 rfl rfl rfl rfl (d_whole_Exact (isInt_n _) (isInt_n _) (hd1) (hg1) (Crv.g_ne _) (Crv.g_dvd _ _ (List.mem_cons_self ..))) rfl) ?_
      refine w_ (p_move rfl rfl) ?_
      refine w_ (p_extract rfl rfl rfl) ?_
      refine w_ (p_extract rfl rfl rfl) ?_
      refine a_storeOw 1 Tryz.sizeOf55 rfl rfl rfl rfl rfl rfl rfl ?_
      refine aw_nil ?_
      refine ac_seq ?_
      refine ac_draw mixed_ 7 [36, 37, 38, 39, 40, 41, 42] [[], [], [0, 1], [], [], [3, 4], []] [.one (pl (trim px)), .agg [sg ((Crv.mk px py d).g), mg ((Crv.mk px py d).g)], .one (pl (trim ((trim px).map (· / ((Crv.mk px py d).g))))), .one (pl (trim py)), .agg [sg ((Crv.mk px py d).g), mg ((Crv.mk px py d).g)], .one (pl (trim ((trim py).map (· / ((Crv.mk px py d).g))))), .agg [sg (((Crv.mk px py d).d') / ((Crv.mk px py d).g)), mg (((Crv.mk px py d).d') / ((Crv.mk px py d).g))]] rfl rfl rfl ⟨p_move rfl rfl, p_loadOw 0 Tryz.isAgg55 Tryz.sizeOf55 rfl rfl rfl rfl rfl, p_call Tryz.func266 rfl rfl rfl rfl (d_curve_over (by omega) (bd_mono (bd_trim hk.x) (by omega)) (hg1) (Crv.g_ne _) (fun z hz => Crv.g_dvd (Crv.mk px py d) z (by simp [hz]))) rfl, p_move rfl rfl, p_loadOw 0 Tryz.isAgg55 Tryz.sizeOf55 rfl rfl rfl rfl rfl, p_call Tryz.func266 rfl rfl rfl rfl (d_curve_over (by omega) (bd_mono (bd_trim hk.y) (by omega)) (hg1) (Crv.g_ne _) (fun z hz => Crv.g_dvd (Crv.mk px py d) z (by simp [hz]))) rfl, p_loadOw 1 Tryz.isAgg55 Tryz.sizeOf55 rfl rfl rfl rfl rfl, trivial⟩ rfl ?_
      refine w_ (p_build (bd_74) rfl rfl rfl rfl) ?_
      refine a_storeOw 2 Tryz.sizeOf74 rfl rfl rfl rfl rfl rfl rfl ?_
      refine aw_nil ?_
      refine ac_ret ?_
      exact retB_1 Tryz.results190 (rv_cell 2 Tryz.isAgg74 Tryz.sizeOf74 rfl rfl rfl rfl rfl) (rfl)
  · have h0' : ¬ ((Crv.mk px py d).d' = 0) := Crv.d'_ne _
    rcases Int.lt_or_gt_of_ne (Crv.d'_ne (Crv.mk px py d)) with hneg | hpos
    · skip
      refine ac_seq ?_
      refine ac_reg ?_
      refine w_ (p_boxS rfl rfl rfl rfl) ?_
      refine a_alloc Tryz.zeroValue74 rfl rfl fun g13 => ?_
      refine aw_nil ?_
      refine ac_seq ?_
      refine ac_drawA mixed_ 10 [7, 8, 9, 10, 11, 12, 13, 14, 15, 5] [[], [0], [1], [], [3], [4], [], [6], [7], []] [.one (.sh [.row lx, .row ly, .bool b, u32r l]), .one (.row lx), .one (pl (trim px)), .one (.sh [.row ly, .bool b, u32r l]), .one (.row ly), .one (pl (trim py)), .one (.sh [.bool b, u32r l]), .agg [.bool b, u32r l], .agg [sg d, mg d], .un] [(9, 55, [.bool false, .slice none 0 0])] [[.bool false, .nils]] rfl rfl rfl (by decide) ⟨rfl, trivial⟩ rfl ⟨p_fieldSh fa_74_0 rfl rfl rfl, p_loadSh Tryz.isAgg52 Tryz.sizeOf52 rfl rfl rfl rfl, p_call Tryz.func189 rfl rfl rfl rfl (d_poly_Norm hx (by omega) (bd_mono hk.x (by omega))) rfl, p_fieldSh fa_74_1 rfl rfl rfl, p_loadSh Tryz.isAgg52 Tryz.sizeOf52 rfl rfl rfl rfl, p_call Tryz.func189 rfl rfl rfl rfl (d_poly_Norm hy (by omega) (bd_mono hk.y (by omega))) rfl, p_fieldSh fa_74_2 rfl rfl rfl, p_loadSh Tryz.isAgg55 Tryz.sizeOf55 rfl rfl rfl rfl, p_call Tryz.func251 rfl rfl rfl rfl (d_whole_Norm hd (Nat.le_trans hk.d (by omega))) rfl, al_alloc Tryz.zeroValue55 rfl, trivial⟩ fun g14 => ⟨_, _, rfl, rfl, ?_⟩
      refine w_ (p_assign rfl rfl) ?_
      refine w_ (p_assign rfl rfl) ?_
      refine a_storeOw 0 Tryz.sizeOf55 rfl rfl rfl rfl rfl rfl rfl ?_
      refine aw_blk (ys := ofI ((Crv.mk px py d).d')) 0 rfl rfl (by unfold Crv.d'; rw [if_neg h0]) ?_
      refine aw_nil ?_
      refine ac_seq ?_
      refine ac_seq ?_
      refine ac_reg ?_
      refine w_ (p_loadOw 0 Tryz.isAgg55 Tryz.sizeOf55 rfl rfl rfl rfl rfl) ?_
      refine w_ (p_call Tryz.func252 rfl rfl rfl rfl (d_ZeroN _) rfl) ?_
      refine aw_nil ?_
      refine ac_f rfl (decide_eq_false h0') ?_
      refine ac_skip ?_
      refine ac_seq ?_
      refine ac_reg ?_
      refine w_ (p_loadOw 0 Tryz.isAgg55 Tryz.sizeOf55 rfl rfl rfl rfl rfl) ?_
      refine a_lit Tryz.runUnderlying51 Tryz.sizeOf55 Tryz.zeroValue55 rfl rfl rfl rfl rfl rfl rfl rfl rfl rfl fun r15 => ?_
      refine w_ (p_move rfl rfl) ?_
      refine a_append (ls2 := ((Crv.mk px py d).d' :: trim px).map ofI) (m2 := 1 + (trim px).length) 0 Tryz.runUnderlying51 Tryz.runUnderlying52 Tryz.typeInfo55 rfl rfl Tryz.sizeOf55 Tryz.zeroValue55 rfl rfl rfl rfl rfl rfl rfl (Nat.le_refl _) (map_w _ (fun _ => rfl)) (map_f _ (fun _ => rfl)) (by rw [List.length_map]; omega) (rfl) (by rw [List.length_map]) fun r16 => ?_
      refine w_ (p_move rfl rfl) ?_
      refine a_append (ls2 := ((Crv.mk px py d).d' :: (trim px ++ trim py)).map ofI) (m2 := 1 + (trim px).length + (trim py).length) 0 Tryz.runUnderlying51 Tryz.runUnderlying52 Tryz.typeInfo55 rfl rfl Tryz.sizeOf55 Tryz.zeroValue55 rfl rfl rfl rfl rfl rfl rfl (by simp; omega) (map_w _ (fun _ => rfl)) (map_f _ (fun _ => rfl)) (by rw [List.length_map]; omega) (by rw [List.take_of_length_le (by simp; omega)]; simp) (by rw [List.length_map]) fun r17 => ?_
      refine aw_pub 0 [24] rfl (allAre1 rfl) (by simp; omega) (by simp; omega) rfl ?_
      refine w_ (p_call Tryz.func264 rfl rfl rfl rfl (d_whole_Gcd (isInts_n ((Crv.mk px py d).d' :: (trim px ++ trim py))) (by
          intro z hz
          rcases List.mem_cons.1 hz with rfl | hz
          · exact hd1
          · rcases List.mem_append.1 hz with hz | hz
            · exact Nat.le_trans (bd_trim hk.x z hz) (by omega)
            · exact Nat.le_trans (bd_trim hk.y z hz) (by omega))) rfl) ?_
      refine a_alloc Tryz.zeroValue55 rfl rfl fun g18 => ?_
      refine a_storeOw 0 Tryz.sizeOf55 rfl rfl rfl rfl rfl rfl rfl ?_
      refine aw_nil ?_
      refine ac_seq ?_
      refine ac_seq ?_
      refine ac_reg ?_
      refine w_ (p_fieldOw fa_55_0 rfl rfl) ?_
      refine w_ (p_loadOw 1 Tryz.isAgg4 Tryz.sizeOf4 rfl rfl rfl rfl rfl) ?_
      refine aw_nil ?_
      refine ac_t rfl (decide_eq_true hneg) ?_
      refine ac_reg ?_
      refine w_ (p_loadOw 0 Tryz.isAgg55 Tryz.sizeOf55 rfl rfl rfl rfl rfl) ?_
      refine w_ (p_call Tryz.func194 rfl rfl rfl rfl (d_whole_Neg (isInt_n _) (hgs)) rfl) ?_
      refine a_storeOw 0 Tryz.sizeOf55 rfl rfl rfl rfl rfl rfl rfl ?_
      refine aw_blk (ys := ofI ((Crv.mk px py d).g)) 0 rfl rfl (by unfold Crv.g; rw [if_pos hneg]) ?_
      refine aw_nil ?_
      refine ac_seq ?_
      refine ac_reg ?_
      refine w_ (p_loadOw 1 Tryz.isAgg55 Tryz.sizeOf55 rfl rfl rfl rfl rfl) ?_
      refine w_ (p_loadOw 0 Tryz.isAgg55 Tryz.sizeOf55 rfl rfl rfl rfl rfl) ?_
      refine w_ (p_call Tryz.func265 rfl rfl rfl rfl (d_whole_Exact (isInt_n _) (isInt_n _) (hd1) (hg1) (Crv.g_ne _) (Crv.g_dvd _ _ (List.mem_cons_self ..))) rfl) ?_
      refine w_ (p_move rfl rfl) ?_
      refine w_ (p_extract rfl rfl rfl) ?_
      refine w_ (p_extract rfl rfl rfl) ?_
      refine a_storeOw 1 Tryz.sizeOf55 rfl rfl rfl rfl rfl rfl rfl ?_
      refine aw_nil ?_
      refine ac_seq ?_
      refine ac_draw mixed_ 7 [36, 37, 38, 39, 40, 41, 42] [[], [], [0, 1], [], [], [3, 4], []] [.one (pl (trim px)), .agg [sg ((Crv.mk px py d).g), mg ((Crv.mk px py d).g)], .one (pl (trim ((trim px).map (· / ((Crv.mk px py d).g))))), .one (pl (trim py)), .agg [sg ((Crv.mk px py d).g), mg ((Crv.mk px py d).g)], .one (pl (trim ((trim py).map (· / ((Crv.mk px py d).g))))), .agg [sg (((Crv.mk px py d).d') / ((Crv.mk px py d).g)), mg (((Crv.mk px py d).d') / ((Crv.mk px py d).g))]] rfl rfl rfl ⟨p_move rfl rfl, p_loadOw 0 Tryz.isAgg55 Tryz.sizeOf55 rfl rfl rfl rfl rfl, p_call Tryz.func266 rfl rfl rfl rfl (d_curve_over (by omega) (bd_mono (bd_trim hk.x) (by omega)) (hg1) (Crv.g_ne _) (fun z hz => Crv.g_dvd (Crv.mk px py d) z (by simp [hz]))) rfl, p_move rfl rfl, p_loadOw 0 Tryz.isAgg55 Tryz.sizeOf55 rfl rfl rfl rfl rfl, p_call Tryz.func266 rfl rfl rfl rfl (d_curve_over (by omega) (bd_mono (bd_trim hk.y) (by omega)) (hg1) (Crv.g_ne _) (fun z hz => Crv.g_dvd (Crv.mk px py d) z (by simp [hz]))) rfl, p_loadOw 1 Tryz.isAgg55 Tryz.sizeOf55 rfl rfl rfl rfl rfl, trivial⟩ rfl ?_
      refine w_ (p_build (bd_74) rfl rfl rfl rfl) ?_
      refine a_storeOw 2 Tryz.sizeOf74 rfl rfl rfl rfl rfl rfl rfl ?_
      refine aw_nil ?_
      refine ac_ret ?_
      exact retB_1 Tryz.results190 (rv_cell 2 Tryz.isAgg74 Tryz.sizeOf74 rfl rfl rfl rfl rfl) (rfl)
    · skip
      refine ac_seq ?_
      refine ac_reg ?_
      refine w_ (p_boxS rfl rfl rfl rfl) ?_
      refine a_alloc Tryz.zeroValue74 rfl rfl fun g19 => ?_
      refine aw_nil ?_
      refine ac_seq ?_
      refine ac_drawA mixed_ 10 [7, 8, 9, 10, 11, 12, 13, 14, 15, 5] [[], [0], [1], [], [3], [4], [], [6], [7], []] [.one (.sh [.row lx, .row ly, .bool b, u32r l]), .one (.row lx), .one (pl (trim px)), .one (.sh [.row ly, .bool b, u32r l]), .one (.row ly), .one (pl (trim py)), .one (.sh [.bool b, u32r l]), .agg [.bool b, u32r l], .agg [sg d, mg d], .un] [(9, 55, [.bool false, .slice none 0 0])] [[.bool false, .nils]] rfl rfl rfl (by decide) ⟨rfl, trivial⟩ rfl ⟨p_fieldSh fa_74_0 rfl rfl rfl, p_loadSh Tryz.isAgg52 Tryz.sizeOf52 rfl rfl rfl rfl, p_call Tryz.func189 rfl rfl rfl rfl (d_poly_Norm hx (by omega) (bd_mono hk.x (by omega))) rfl, p_fieldSh fa_74_1 rfl rfl rfl, p_loadSh Tryz.isAgg52 Tryz.sizeOf52 rfl rfl rfl rfl, p_call Tryz.func189 rfl rfl rfl rfl (d_poly_Norm hy (by omega) (bd_mono hk.y (by omega))) rfl, p_fieldSh fa_74_2 rfl rfl rfl, p_loadSh Tryz.isAgg55 Tryz.sizeOf55 rfl rfl rfl rfl, p_call Tryz.func251 rfl rfl rfl rfl (d_whole_Norm hd (Nat.le_trans hk.d (by omega))) rfl, al_alloc Tryz.zeroValue55 rfl, trivial⟩ fun g20 => ⟨_, _, rfl, rfl, ?_⟩
      refine w_ (p_assign rfl rfl) ?_
      refine w_ (p_assign rfl rfl) ?_
      refine a_storeOw 0 Tryz.sizeOf55 rfl rfl rfl rfl rfl rfl rfl ?_
      refine aw_blk (ys := ofI ((Crv.mk px py d).d')) 0 rfl rfl (by unfold Crv.d'; rw [if_neg h0]) ?_
      refine aw_nil ?_
      refine ac_seq ?_
      refine ac_seq ?_
      refine ac_reg ?_
      refine w_ (p_loadOw 0 Tryz.isAgg55 Tryz.sizeOf55 rfl rfl rfl rfl rfl) ?_
      refine w_ (p_call Tryz.func252 rfl rfl rfl rfl (d_ZeroN _) rfl) ?_
      refine aw_nil ?_
      refine ac_f rfl (decide_eq_false h0') ?_
      refine ac_skip ?_
      refine ac_seq ?_
      refine ac_reg ?_
      refine w_ (p_loadOw 0 Tryz.isAgg55 Tryz.sizeOf55 rfl rfl rfl rfl rfl) ?_
      refine a_lit Tryz.runUnderlying51 Tryz.sizeOf55 Tryz.zeroValue55 rfl rfl rfl rfl rfl rfl rfl rfl rfl rfl fun r21 => ?_
      refine w_ (p_move rfl rfl) ?_
      refine a_append (ls2 := ((Crv.mk px py d).d' :: trim px).map ofI) (m2 := 1 + (trim px).length) 0 Tryz.runUnderlying51 Tryz.runUnderlying52 Tryz.typeInfo55 rfl rfl Tryz.sizeOf55 Tryz.zeroValue55 rfl rfl rfl rfl rfl rfl rfl (Nat.le_refl _) (map_w _ (fun _ => rfl)) (map_f _ (fun _ => rfl)) (by rw [List.length_map]; omega) (rfl) (by rw [List.length_map]) fun r22 => ?_
      refine w_ (p_move rfl rfl) ?_
      refine a_append (ls2 := ((Crv.mk px py d).d' :: (trim px ++ trim py)).map ofI) (m2 := 1 + (trim px).length + (trim py).length) 0 Tryz.runUnderlying51 Tryz.runUnderlying52 Tryz.typeInfo55 rfl rfl Tryz.sizeOf55 Tryz.zeroValue55 rfl rfl rfl rfl rfl rfl rfl (by simp; omega) (map_w _ (fun _ => rfl)) (map_f _ (fun _ => rfl)) (by rw [List.length_map]; omega) (by rw [List.take_of_length_le (by simp; omega)]; simp) (by rw [List.length_map]) fun r23 => ?_
      refine aw_pub 0 [24] rfl (allAre1 rfl) (by simp; omega) (by simp; omega) rfl ?_
      refine w_ (p_call Tryz.func264 rfl rfl rfl rfl (d_whole_Gcd (isInts_n ((Crv.mk px py d).d' :: (trim px ++ trim py))) (by
          intro z hz
          rcases List.mem_cons.1 hz with rfl | hz
          · exact hd1
          · rcases List.mem_append.1 hz with hz | hz
            · exact Nat.le_trans (bd_trim hk.x z hz) (by omega)
            · exact Nat.le_trans (bd_trim hk.y z hz) (by omega))) rfl) ?_
      refine a_alloc Tryz.zeroValue55 rfl rfl fun g24 => ?_
      refine a_storeOw 0 Tryz.sizeOf55 rfl rfl rfl rfl rfl rfl rfl ?_
      refine aw_blk (ys := ofI ((Crv.mk px py d).g)) 0 rfl rfl (by unfold Crv.g; rw [if_neg (by omega)]) ?_
      refine aw_nil ?_
      refine ac_seq ?_
      refine ac_seq ?_
      refine ac_reg ?_
      refine w_ (p_fieldOw fa_55_0 rfl rfl) ?_
      refine w_ (p_loadOw 1 Tryz.isAgg4 Tryz.sizeOf4 rfl rfl rfl rfl rfl) ?_
      refine aw_nil ?_
      refine ac_f rfl (decide_eq_false (by omega)) ?_
      refine ac_skip ?_
      refine ac_seq ?_
      refine ac_reg ?_
      refine w_ (p_loadOw 1 Tryz.isAgg55 Tryz.sizeOf55 rfl rfl rfl rfl rfl) ?_
      refine w_ (p_loadOw 0 Tryz.isAgg55 Tryz.sizeOf55 rfl rfl rfl rfl rfl) ?_
      refine w_ (p_call Tryz.func265 rfl rfl rfl rfl (d_whole_Exact (isInt_n _) (isInt_n _) (hd1) (hg1) (Crv.g_ne _) (Crv.g_dvd _ _ (List.mem_cons_self ..))) rfl) ?_
      refine w_ (p_move rfl rfl) ?_
      refine w_ (p_extract rfl rfl rfl) ?_
      refine w_ (p_extract rfl rfl rfl) ?_
      refine a_storeOw 1 Tryz.sizeOf55 rfl rfl rfl rfl rfl rfl rfl ?_
      refine aw_nil ?_
      refine ac_seq ?_
      refine ac_draw mixed_ 7 [36, 37, 38, 39, 40, 41, 42] [[], [], [0, 1], [], [], [3, 4], []] [.one (pl (trim px)), .agg [sg ((Crv.mk px py d).g), mg ((Crv.mk px py d).g)], .one (pl (trim ((trim px).map (· / ((Crv.mk px py d).g))))), .one (pl (trim py)), .agg [sg ((Crv.mk px py d).g), mg ((Crv.mk px py d).g)], .one (pl (trim ((trim py).map (· / ((Crv.mk px py d).g))))), .agg [sg (((Crv.mk px py d).d') / ((Crv.mk px py d).g)), mg (((Crv.mk px py d).d') / ((Crv.mk px py d).g))]] rfl rfl rfl ⟨p_move rfl rfl, p_loadOw 0 Tryz.isAgg55 Tryz.sizeOf55 rfl rfl rfl rfl rfl, p_call Tryz.func266 rfl rfl rfl rfl (d_curve_over (by omega) (bd_mono (bd_trim hk.x) (by omega)) (hg1) (Crv.g_ne _) (fun z hz => Crv.g_dvd (Crv.mk px py d) z (by simp [hz]))) rfl, p_move rfl rfl, p_loadOw 0 Tryz.isAgg55 Tryz.sizeOf55 rfl rfl rfl rfl rfl, p_call Tryz.func266 rfl rfl rfl rfl (d_curve_over (by omega) (bd_mono (bd_trim hk.y) (by omega)) (hg1) (Crv.g_ne _) (fun z hz => Crv.g_dvd (Crv.mk px py d) z (by simp [hz]))) rfl, p_loadOw 1 Tryz.isAgg55 Tryz.sizeOf55 rfl rfl rfl rfl rfl, trivial⟩ rfl ?_
      refine w_ (p_build (bd_74) rfl rfl rfl rfl) ?_
      refine a_storeOw 2 Tryz.sizeOf74 rfl rfl rfl rfl rfl rfl rfl ?_
      refine aw_nil ?_
      refine ac_ret ?_
      exact retB_1 Tryz.results190 (rv_cell 2 Tryz.isAgg74 Tryz.sizeOf74 rfl rfl rfl rfl rfl) (rfl)

theorem d_curve_normN {k : Crv} (hn : Nml k) (hk : Cs 4294967294 1073741824 k) : Does Tryz.prog 190 [.agg (cl k)] (.agg (cl k)) := by
  have h := d_curve_norm (isInts_n k.x) (isInts_n k.y) (isInt_n k.d) hk
  rw [Crv.norm_of hn] at h
  exact h
def still (x y : Int) : Crv := Crv.norm ⟨trim [x], trim [y], 0⟩


theorem d_curve_Make {lx ly : List (List LV)} {px py : List Int} {b : Bool} {l : List Nat} {d : Int} (hx : IsInts lx px) (hy : IsInts ly py) (hd : IsInt (.bool b) (u32r l) d) (hk : Cs 4294967294 1073741824 (Crv.mk px py d)) (h0 : d ≠ 0) : Does Tryz.prog 253 [.one (.row lx), .one (.row ly), .agg [.bool b, u32r l]] (.tup [.agg [pl (((Crv.norm (Crv.mk px py d))).x), pl (((Crv.norm (Crv.mk px py d))).y), sg (((Crv.norm (Crv.mk px py d))).d), mg (((Crv.norm (Crv.mk px py d))).d)], .one (.int .i64 0)]) := by
  refine does_ (n := 17) Tryz.func253 rfl Tryz.ntmps253 rfl ?_
  refine ac_seq ?_
  refine ac_reg ?_
  refine w_ (p_boxS rfl rfl rfl rfl) ?_
  refine a_alloc Tryz.zeroValue74 rfl rfl fun g1 => ?_
  refine w_ (p_assign rfl rfl) ?_
  refine aw_nil ?_
  refine ac_seq ?_
  refine ac_seq ?_
  refine ac_reg ?_
  refine w_ (p_loadSh Tryz.isAgg55 Tryz.sizeOf55 rfl rfl rfl rfl) ?_
  refine w_ (p_call Tryz.func251 rfl rfl rfl rfl (d_whole_Norm hd (Nat.le_trans hk.d (by omega))) rfl) ?_
  refine w_ (p_call Tryz.func252 rfl rfl rfl rfl ((d_ZeroN _) ) rfl) ?_
  refine aw_nil ?_
  refine ac_f rfl (decide_eq_false h0) ?_
  refine ac_skip ?_
  refine ac_seq ?_
  refine ac_reg ?_
  refine w_ (p_move rfl rfl) ?_
  refine w_ (p_move rfl rfl) ?_
  refine w_ (p_loadSh Tryz.isAgg55 Tryz.sizeOf55 rfl rfl rfl rfl) ?_
  refine w_ (p_build (bd_74) rfl rfl rfl rfl) ?_
  refine w_ (p_call Tryz.func190 rfl rfl rfl rfl (d_curve_norm hx hy hd (hk)) rfl) ?_
  refine a_storeOw 0 Tryz.sizeOf74 rfl rfl rfl rfl rfl rfl rfl ?_
  refine w_ (p_assign rfl rfl) ?_
  refine aw_nil ?_
  refine ac_ret ?_
  exact retB_2 Tryz.results253 (rv_cell 0 Tryz.isAgg74 Tryz.sizeOf74 rfl rfl rfl rfl rfl) (rv_tmp rfl rfl) (rfl)

theorem d_curve_Of {lx ly : List (List LV)} {px py : List Int} (hx : IsInts lx px) (hy : IsInts ly py) (hk : Cs 4294967294 1073741824 (Crv.mk px py 0)) : Does Tryz.prog 112 [.one (.row lx), .one (.row ly)] (.agg [pl (((Crv.norm (Crv.mk px py 0))).x), pl (((Crv.norm (Crv.mk px py 0))).y), sg (((Crv.norm (Crv.mk px py 0))).d), mg (((Crv.norm (Crv.mk px py 0))).d)]) := by
  refine does_ (n := 9) Tryz.func112 rfl Tryz.ntmps112 rfl ?_
  refine ac_seq ?_
  refine ac_reg ?_
  refine a_alloc Tryz.zeroValue74 rfl rfl fun g1 => ?_
  refine aw_nil ?_
  refine ac_seq ?_
  refine ac_reg ?_
  refine w_ (p_move rfl rfl) ?_
  refine w_ (p_move rfl rfl) ?_
  refine w_ (p_build (bd_74) rfl rfl rfl rfl) ?_
  refine w_ (p_call Tryz.func190 rfl rfl rfl rfl (d_curve_norm hx hy (show IsInt (.bool false) (u32r []) 0 from isInt_zero) (hk)) rfl) ?_
  refine a_storeOw 0 Tryz.sizeOf74 rfl rfl rfl rfl rfl rfl rfl ?_
  refine aw_nil ?_
  refine ac_ret ?_
  exact retB_1 Tryz.results112 (rv_cell 0 Tryz.isAgg74 Tryz.sizeOf74 rfl rfl rfl rfl rfl) (rfl)

theorem cs_still {x y : Int} (hx : -9223372036854775808 ≤ x ∧ x ≤ 9223372036854775807) (hy : -9223372036854775808 ≤ y ∧ y ≤ 9223372036854775807) : Cs 64 1 ⟨trim [x], trim [y], 0⟩ := by
  have key : ∀ z : Int, -9223372036854775808 ≤ z ∧ z ≤ 9223372036854775807 → isz z ≤ 64 := fun z hz => by
    rw [isz_le]
    have : (2 : Nat) ^ 64 = 18446744073709551616 := by decide
    omega
  refine ⟨bd_trim fun z hz => ?_, bd_trim fun z hz => ?_, Nat.zero_le _, trim_len [x], trim_len [y]⟩
  · rw [List.mem_singleton] at hz; rw [hz]; exact key x hx
  · rw [List.mem_singleton] at hz; rw [hz]; exact key y hy

theorem d_curve_Still {x y : Int} (hx : -9223372036854775808 ≤ x ∧ x ≤ 9223372036854775807) (hy : -9223372036854775808 ≤ y ∧ y ≤ 9223372036854775807) : Does Tryz.prog 45 [.one (.int .i64 x), .one (.int .i64 y)] (.agg [pl (((still x y)).x), pl (((still x y)).y), sg (((still x y)).d), mg (((still x y)).d)]) := by
  refine does_ (n := 12) Tryz.func45 rfl Tryz.ntmps45 rfl ?_
  refine ac_seq ?_
  refine ac_reg ?_
  refine a_alloc Tryz.zeroValue74 rfl rfl fun g1 => ?_
  refine aw_nil ?_
  refine ac_seq ?_
  refine ac_reg ?_
  refine w_ (p_move rfl rfl) ?_
  refine w_ (p_lit Tryz.runUnderlying23 Tryz.sizeOf3 Tryz.zeroValue3 rfl rfl rfl rfl rfl rfl rfl rfl rfl rfl) ?_
  refine w_ (p_call Tryz.func113 rfl rfl rfl rfl (d_poly_Of (p := [x]) (show 1 < 274877906944 by decide) (by intro z hz; rw [List.mem_singleton] at hz; rw [hz]; exact hx)) rfl) ?_
  refine w_ (p_move rfl rfl) ?_
  refine w_ (p_lit Tryz.runUnderlying23 Tryz.sizeOf3 Tryz.zeroValue3 rfl rfl rfl rfl rfl rfl rfl rfl rfl rfl) ?_
  refine w_ (p_call Tryz.func113 rfl rfl rfl rfl (d_poly_Of (p := [y]) (show 1 < 274877906944 by decide) (by intro z hz; rw [List.mem_singleton] at hz; rw [hz]; exact hy)) rfl) ?_
  refine w_ (p_call Tryz.func112 rfl rfl rfl rfl (d_curve_Of (isInts_n _) (isInts_n _) ((cs_still hx hy).mono (by omega) (by omega))) rfl) ?_
  refine a_storeOw 0 Tryz.sizeOf74 rfl rfl rfl rfl rfl rfl rfl ?_
  refine aw_nil ?_
  refine ac_ret ?_
  exact retB_1 Tryz.results45 (rv_cell 0 Tryz.isAgg74 Tryz.sizeOf74 rfl rfl rfl rfl rfl) (rfl)

theorem d_curve_Same {a b : Crv} (ha : Nml a) (hb : Nml b) (ca : Cs 4294967294 1073741824 a) (cb : Cs 4294967294 1073741824 b) : Does Tryz.prog 231 [.agg [pl a.x, pl a.y, sg a.d, mg a.d], .agg [pl b.x, pl b.y, sg b.d, mg b.d]] (.one (.bool (crvEq a b))) := by
  refine does_ (n := 29) Tryz.func231 rfl Tryz.ntmps231 rfl ?_
  by_cases hex : trim a.x = trim b.x
  · by_cases hey : trim a.y = trim b.y
    · skip
      refine ac_seq ?_
      refine ac_reg ?_
      refine a_box rfl rfl rfl fun g1 => ?_
      refine a_box rfl rfl rfl fun g2 => ?_
      refine w_ (p_assign rfl rfl) ?_
      refine aw_nil ?_
      refine ac_seq ?_
      refine ac_draw mixed_ 3 [5, 6, 7] [[], [0], []] [.agg [pl a.x, pl a.y, sg a.d, mg a.d], .agg [pl a.x, pl a.y, sg a.d, mg a.d], .agg [pl b.x, pl b.y, sg b.d, mg b.d]] rfl rfl rfl ⟨p_loadOw 1 Tryz.isAgg74 Tryz.sizeOf74 rfl rfl rfl rfl rfl, p_call Tryz.func190 rfl rfl rfl rfl (d_curve_normN (ha) (ca)) rfl, p_loadOw 0 Tryz.isAgg74 Tryz.sizeOf74 rfl rfl rfl rfl rfl, trivial⟩ rfl ?_
      refine w_ (p_call Tryz.func190 rfl rfl rfl rfl (d_curve_normN (hb) (cb)) rfl) ?_
      refine a_storeOw 1 Tryz.sizeOf74 rfl rfl rfl rfl rfl rfl rfl ?_
      refine a_storeOw 0 Tryz.sizeOf74 rfl rfl rfl rfl rfl rfl rfl ?_
      refine aw_nil ?_
      refine ac_seq ?_
      refine ac_reg ?_
      refine w_ (p_fieldOw fa_74_0 rfl rfl) ?_
      refine w_ (p_loadOw 1 Tryz.isAgg52 Tryz.sizeOf52 rfl rfl rfl rfl rfl) ?_
      refine w_ (p_fieldOw fa_74_0 rfl rfl) ?_
      refine w_ (p_loadOw 0 Tryz.isAgg52 Tryz.sizeOf52 rfl rfl rfl rfl rfl) ?_
      refine w_ (p_call Tryz.func290 rfl rfl rfl rfl (d_poly_Same (Nat.lt_of_le_of_lt ca.lx (by omega)) (Nat.lt_of_le_of_lt cb.lx (by omega)) (bd_mono ca.x (by omega)) (bd_mono cb.x (by omega))) rfl) ?_
      refine w_ (p_move rfl rfl) ?_
      refine w_ ((p_grun rfl rfl (decide_eq_true hex) (p_fieldOw fa_74_1 rfl rfl))) ?_
      refine w_ ((p_grun rfl rfl (decide_eq_true hex) (p_loadOw 1 Tryz.isAgg52 Tryz.sizeOf52 rfl rfl rfl rfl rfl))) ?_
      refine w_ ((p_grun rfl rfl (decide_eq_true hex) (p_fieldOw fa_74_1 rfl rfl))) ?_
      refine w_ ((p_grun rfl rfl (decide_eq_true hex) (p_loadOw 0 Tryz.isAgg52 Tryz.sizeOf52 rfl rfl rfl rfl rfl))) ?_
      refine w_ ((p_grun rfl rfl (decide_eq_true hex) (p_call Tryz.func290 rfl rfl rfl rfl (d_poly_Same (Nat.lt_of_le_of_lt ca.ly (by omega)) (Nat.lt_of_le_of_lt cb.ly (by omega)) (bd_mono ca.y (by omega)) (bd_mono cb.y (by omega))) rfl))) ?_
      refine w_ (p_pickT rfl (decide_eq_true hex) rfl rfl) ?_
      refine w_ (p_move rfl rfl) ?_
      refine w_ ((p_grun rfl rfl (decide_eq_true hey) (p_fieldOw fa_74_2 rfl rfl))) ?_
      refine w_ ((p_grun rfl rfl (decide_eq_true hey) (p_loadOw 1 Tryz.isAgg55 Tryz.sizeOf55 rfl rfl rfl rfl rfl))) ?_
      refine w_ ((p_grun rfl rfl (decide_eq_true hey) (p_fieldOw fa_74_2 rfl rfl))) ?_
      refine w_ ((p_grun rfl rfl (decide_eq_true hey) (p_loadOw 0 Tryz.isAgg55 Tryz.sizeOf55 rfl rfl rfl rfl rfl))) ?_
      refine w_ ((p_grun rfl rfl (decide_eq_true hey) (p_call Tryz.func291 rfl rfl rfl rfl (d_whole_Cmp (isInt_n _) (isInt_n _) (Nat.le_trans ca.d (by omega)) (Nat.le_trans cb.d (by omega))) rfl))) ?_
      refine w_ ((p_grun rfl rfl (decide_eq_true hey) (p_cmp rfl rfl rfl rfl))) ?_
      refine w_ (p_pickT rfl (decide_eq_true hey) rfl rfl) ?_
      refine w_ (p_assign rfl rfl) ?_
      refine aw_nil ?_
      refine ac_ret ?_
      exact retB_1 Tryz.results231 (rv_tmp rfl rfl) (by unfold crvEq; rw [show trim a.x = a.x from ha.1, show trim b.x = b.x from hb.1] at hex; rw [show trim a.y = a.y from ha.2.1, show trim b.y = b.y from hb.2.1] at hey; simp [hex, hey, cmpZ_eq])
    · skip
      refine ac_seq ?_
      refine ac_reg ?_
      refine a_box rfl rfl rfl fun g3 => ?_
      refine a_box rfl rfl rfl fun g4 => ?_
      refine w_ (p_assign rfl rfl) ?_
      refine aw_nil ?_
      refine ac_seq ?_
      refine ac_draw mixed_ 3 [5, 6, 7] [[], [0], []] [.agg [pl a.x, pl a.y, sg a.d, mg a.d], .agg [pl a.x, pl a.y, sg a.d, mg a.d], .agg [pl b.x, pl b.y, sg b.d, mg b.d]] rfl rfl rfl ⟨p_loadOw 1 Tryz.isAgg74 Tryz.sizeOf74 rfl rfl rfl rfl rfl, p_call Tryz.func190 rfl rfl rfl rfl (d_curve_normN (ha) (ca)) rfl, p_loadOw 0 Tryz.isAgg74 Tryz.sizeOf74 rfl rfl rfl rfl rfl, trivial⟩ rfl ?_
      refine w_ (p_call Tryz.func190 rfl rfl rfl rfl (d_curve_normN (hb) (cb)) rfl) ?_
      refine a_storeOw 1 Tryz.sizeOf74 rfl rfl rfl rfl rfl rfl rfl ?_
      refine a_storeOw 0 Tryz.sizeOf74 rfl rfl rfl rfl rfl rfl rfl ?_
      refine aw_nil ?_
      refine ac_seq ?_
      refine ac_reg ?_
      refine w_ (p_fieldOw fa_74_0 rfl rfl) ?_
      refine w_ (p_loadOw 1 Tryz.isAgg52 Tryz.sizeOf52 rfl rfl rfl rfl rfl) ?_
      refine w_ (p_fieldOw fa_74_0 rfl rfl) ?_
      refine w_ (p_loadOw 0 Tryz.isAgg52 Tryz.sizeOf52 rfl rfl rfl rfl rfl) ?_
      refine w_ (p_call Tryz.func290 rfl rfl rfl rfl (d_poly_Same (Nat.lt_of_le_of_lt ca.lx (by omega)) (Nat.lt_of_le_of_lt cb.lx (by omega)) (bd_mono ca.x (by omega)) (bd_mono cb.x (by omega))) rfl) ?_
      refine w_ (p_move rfl rfl) ?_
      refine w_ ((p_grun rfl rfl (decide_eq_true hex) (p_fieldOw fa_74_1 rfl rfl))) ?_
      refine w_ ((p_grun rfl rfl (decide_eq_true hex) (p_loadOw 1 Tryz.isAgg52 Tryz.sizeOf52 rfl rfl rfl rfl rfl))) ?_
      refine w_ ((p_grun rfl rfl (decide_eq_true hex) (p_fieldOw fa_74_1 rfl rfl))) ?_
      refine w_ ((p_grun rfl rfl (decide_eq_true hex) (p_loadOw 0 Tryz.isAgg52 Tryz.sizeOf52 rfl rfl rfl rfl rfl))) ?_
      refine w_ ((p_grun rfl rfl (decide_eq_true hex) (p_call Tryz.func290 rfl rfl rfl rfl (d_poly_Same (Nat.lt_of_le_of_lt ca.ly (by omega)) (Nat.lt_of_le_of_lt cb.ly (by omega)) (bd_mono ca.y (by omega)) (bd_mono cb.y (by omega))) rfl))) ?_
      refine w_ (p_pickT rfl (decide_eq_true hex) rfl rfl) ?_
      refine w_ (p_move rfl rfl) ?_
      refine w_ (p_gskip rfl rfl (decide_eq_false hey) rfl) ?_
      refine w_ (p_gskip rfl rfl (decide_eq_false hey) rfl) ?_
      refine w_ (p_gskip rfl rfl (decide_eq_false hey) rfl) ?_
      refine w_ (p_gskip rfl rfl (decide_eq_false hey) rfl) ?_
      refine w_ (p_gskip rfl rfl (decide_eq_false hey) rfl) ?_
      refine w_ (p_gskip rfl rfl (decide_eq_false hey) rfl) ?_
      refine w_ (p_pickF rfl (decide_eq_false hey) rfl rfl) ?_
      refine w_ (p_assign rfl rfl) ?_
      refine aw_nil ?_
      refine ac_ret ?_
      exact retB_1 Tryz.results231 (rv_tmp rfl rfl) (by unfold crvEq; rw [show trim a.y = a.y from ha.2.1, show trim b.y = b.y from hb.2.1] at hey; simp [hey])
  · skip
    refine ac_seq ?_
    refine ac_reg ?_
    refine a_box rfl rfl rfl fun g5 => ?_
    refine a_box rfl rfl rfl fun g6 => ?_
    refine w_ (p_assign rfl rfl) ?_
    refine aw_nil ?_
    refine ac_seq ?_
    refine ac_draw mixed_ 3 [5, 6, 7] [[], [0], []] [.agg [pl a.x, pl a.y, sg a.d, mg a.d], .agg [pl a.x, pl a.y, sg a.d, mg a.d], .agg [pl b.x, pl b.y, sg b.d, mg b.d]] rfl rfl rfl ⟨p_loadOw 1 Tryz.isAgg74 Tryz.sizeOf74 rfl rfl rfl rfl rfl, p_call Tryz.func190 rfl rfl rfl rfl (d_curve_normN (ha) (ca)) rfl, p_loadOw 0 Tryz.isAgg74 Tryz.sizeOf74 rfl rfl rfl rfl rfl, trivial⟩ rfl ?_
    refine w_ (p_call Tryz.func190 rfl rfl rfl rfl (d_curve_normN (hb) (cb)) rfl) ?_
    refine a_storeOw 1 Tryz.sizeOf74 rfl rfl rfl rfl rfl rfl rfl ?_
    refine a_storeOw 0 Tryz.sizeOf74 rfl rfl rfl rfl rfl rfl rfl ?_
    refine aw_nil ?_
    refine ac_seq ?_
    refine ac_reg ?_
    refine w_ (p_fieldOw fa_74_0 rfl rfl) ?_
    refine w_ (p_loadOw 1 Tryz.isAgg52 Tryz.sizeOf52 rfl rfl rfl rfl rfl) ?_
    refine w_ (p_fieldOw fa_74_0 rfl rfl) ?_
    refine w_ (p_loadOw 0 Tryz.isAgg52 Tryz.sizeOf52 rfl rfl rfl rfl rfl) ?_
    refine w_ (p_call Tryz.func290 rfl rfl rfl rfl (d_poly_Same (Nat.lt_of_le_of_lt ca.lx (by omega)) (Nat.lt_of_le_of_lt cb.lx (by omega)) (bd_mono ca.x (by omega)) (bd_mono cb.x (by omega))) rfl) ?_
    refine w_ (p_move rfl rfl) ?_
    refine w_ (p_gskip rfl rfl (decide_eq_false hex) rfl) ?_
    refine w_ (p_gskip rfl rfl (decide_eq_false hex) rfl) ?_
    refine w_ (p_gskip rfl rfl (decide_eq_false hex) rfl) ?_
    refine w_ (p_gskip rfl rfl (decide_eq_false hex) rfl) ?_
    refine w_ (p_gskip rfl rfl (decide_eq_false hex) rfl) ?_
    refine w_ (p_pickF rfl (decide_eq_false hex) rfl rfl) ?_
    refine w_ (p_move rfl rfl) ?_
    refine w_ (p_gskip rfl rfl (rfl) rfl) ?_
    refine w_ (p_gskip rfl rfl (rfl) rfl) ?_
    refine w_ (p_gskip rfl rfl (rfl) rfl) ?_
    refine w_ (p_gskip rfl rfl (rfl) rfl) ?_
    refine w_ (p_gskip rfl rfl (rfl) rfl) ?_
    refine w_ (p_gskip rfl rfl (rfl) rfl) ?_
    refine w_ (p_pickF rfl (rfl) rfl rfl) ?_
    refine w_ (p_assign rfl rfl) ?_
    refine aw_nil ?_
    refine ac_ret ?_
    exact retB_1 Tryz.results231 (rv_tmp rfl rfl) (by unfold crvEq; rw [show trim a.x = a.x from ha.1, show trim b.x = b.x from hb.1] at hex; simp [hex])

theorem norm_d1 (px py : List Int) : Crv.norm ⟨px, py, 1⟩ = Crv.norm ⟨px, py, 0⟩ := rfl

theorem d_crowd_fresh {lx ly : List (List LV)} {px py : List Int} {b : Bool} {l : List Nat} {d : Int} (hx : IsInts lx px) (hy : IsInts ly py) (hd : IsInt (.bool b) (u32r l) d) (hk : Cs 4294967294 1073741824 (Crv.mk px py d)) {id : Int} : Does Tryz.prog 204 [.agg [.row lx, .row ly, .bool b, u32r l, .int .i64 id]] (.agg [pl (((Crv.norm (Crv.mk px py d))).x), pl (((Crv.norm (Crv.mk px py d))).y), sg (((Crv.norm (Crv.mk px py d))).d), mg (((Crv.norm (Crv.mk px py d))).d), .int .i64 id]) := by
  refine does_ (n := 24) Tryz.func204 rfl Tryz.ntmps204 rfl ?_
  by_cases h0 : d = 0
  · skip
    refine ac_seq ?_
    refine ac_reg ?_
    refine a_box rfl rfl rfl fun g1 => ?_
    refine a_alloc Tryz.zeroValue76 rfl rfl fun g2 => ?_
    refine aw_nil ?_
    refine ac_seq ?_
    refine ac_reg ?_
    refine w_ (p_fieldOw fa_76_0 rfl rfl) ?_
    refine w_ (p_fieldOw fa_74_2 rfl rfl) ?_
    refine w_ (p_loadOw 1 Tryz.isAgg55 Tryz.sizeOf55 rfl rfl rfl rfl rfl) ?_
    refine a_alloc Tryz.zeroValue55 rfl rfl fun g3 => ?_
    refine a_storeOw 0 Tryz.sizeOf55 rfl rfl rfl rfl rfl rfl rfl ?_
    refine aw_nil ?_
    refine ac_seq ?_
    refine ac_seq ?_
    refine ac_reg ?_
    refine w_ (p_loadOw 0 Tryz.isAgg55 Tryz.sizeOf55 rfl rfl rfl rfl rfl) ?_
    refine w_ (p_call Tryz.func251 rfl rfl rfl rfl (d_whole_Norm hd (Nat.le_trans hk.d (by omega))) rfl) ?_
    refine w_ (p_call Tryz.func252 rfl rfl rfl rfl ((d_ZeroN _) ) rfl) ?_
    refine aw_nil ?_
    refine ac_t rfl (decide_eq_true h0) ?_
    refine ac_reg ?_
    refine w_ (p_call Tryz.func191 rfl rfl rfl rfl (d_whole_Of (by omega)) rfl) ?_
    refine a_storeOw 0 Tryz.sizeOf55 rfl rfl rfl rfl rfl rfl rfl ?_
    refine aw_nil ?_
    refine ac_seq ?_
    refine ac_reg ?_
    refine w_ (p_fieldOw fa_76_0 rfl rfl) ?_
    refine w_ (p_fieldOw fa_74_0 rfl rfl) ?_
    refine w_ (p_loadOw 2 Tryz.isAgg52 Tryz.sizeOf52 rfl rfl rfl rfl rfl) ?_
    refine w_ (p_fieldOw fa_76_0 rfl rfl) ?_
    refine w_ (p_fieldOw fa_74_1 rfl rfl) ?_
    refine w_ (p_loadOw 2 Tryz.isAgg52 Tryz.sizeOf52 rfl rfl rfl rfl rfl) ?_
    refine w_ (p_loadOw 0 Tryz.isAgg55 Tryz.sizeOf55 rfl rfl rfl rfl rfl) ?_
    refine w_ (p_call Tryz.func253 rfl rfl rfl rfl (d_curve_Make hx hy (isInt_n _) (⟨hk.x, hk.y, by show isz 1 ≤ _; decide, hk.lx, hk.ly⟩) (by decide)) rfl) ?_
    refine w_ (p_move rfl rfl) ?_
    refine w_ (p_extract rfl rfl rfl) ?_
    refine w_ (p_extract rfl rfl rfl) ?_
    refine w_ (p_fieldOw fa_76_0 rfl rfl) ?_
    refine a_storeOw 2 Tryz.sizeOf74 rfl rfl rfl rfl rfl rfl rfl ?_
    refine aw_nil ?_
    refine ac_seq ?_
    refine ac_reg ?_
    refine w_ (p_loadOw 2 Tryz.isAgg76 Tryz.sizeOf76 rfl rfl rfl rfl rfl) ?_
    refine a_storeOw 1 Tryz.sizeOf76 rfl rfl rfl rfl rfl rfl rfl ?_
    refine aw_nil ?_
    refine ac_ret ?_
    exact retB_1 Tryz.results204 (rv_cell 1 Tryz.isAgg76 Tryz.sizeOf76 rfl rfl rfl rfl rfl) (by rw [h0, norm_d1])
  · skip
    refine ac_seq ?_
    refine ac_reg ?_
    refine a_box rfl rfl rfl fun g4 => ?_
    refine a_alloc Tryz.zeroValue76 rfl rfl fun g5 => ?_
    refine aw_nil ?_
    refine ac_seq ?_
    refine ac_reg ?_
    refine w_ (p_fieldOw fa_76_0 rfl rfl) ?_
    refine w_ (p_fieldOw fa_74_2 rfl rfl) ?_
    refine w_ (p_loadOw 1 Tryz.isAgg55 Tryz.sizeOf55 rfl rfl rfl rfl rfl) ?_
    refine a_alloc Tryz.zeroValue55 rfl rfl fun g6 => ?_
    refine a_storeOw 0 Tryz.sizeOf55 rfl rfl rfl rfl rfl rfl rfl ?_
    refine aw_nil ?_
    refine ac_seq ?_
    refine ac_seq ?_
    refine ac_reg ?_
    refine w_ (p_loadOw 0 Tryz.isAgg55 Tryz.sizeOf55 rfl rfl rfl rfl rfl) ?_
    refine w_ (p_call Tryz.func251 rfl rfl rfl rfl (d_whole_Norm hd (Nat.le_trans hk.d (by omega))) rfl) ?_
    refine w_ (p_call Tryz.func252 rfl rfl rfl rfl ((d_ZeroN _) ) rfl) ?_
    refine aw_nil ?_
    refine ac_f rfl (decide_eq_false h0) ?_
    refine ac_skip ?_
    refine ac_seq ?_
    refine ac_reg ?_
    refine w_ (p_fieldOw fa_76_0 rfl rfl) ?_
    refine w_ (p_fieldOw fa_74_0 rfl rfl) ?_
    refine w_ (p_loadOw 2 Tryz.isAgg52 Tryz.sizeOf52 rfl rfl rfl rfl rfl) ?_
    refine w_ (p_fieldOw fa_76_0 rfl rfl) ?_
    refine w_ (p_fieldOw fa_74_1 rfl rfl) ?_
    refine w_ (p_loadOw 2 Tryz.isAgg52 Tryz.sizeOf52 rfl rfl rfl rfl rfl) ?_
    refine w_ (p_loadOw 0 Tryz.isAgg55 Tryz.sizeOf55 rfl rfl rfl rfl rfl) ?_
    refine w_ (p_call Tryz.func253 rfl rfl rfl rfl (d_curve_Make hx hy hd (hk) (h0)) rfl) ?_
    refine w_ (p_move rfl rfl) ?_
    refine w_ (p_extract rfl rfl rfl) ?_
    refine w_ (p_extract rfl rfl rfl) ?_
    refine w_ (p_fieldOw fa_76_0 rfl rfl) ?_
    refine a_storeOw 2 Tryz.sizeOf74 rfl rfl rfl rfl rfl rfl rfl ?_
    refine aw_nil ?_
    refine ac_seq ?_
    refine ac_reg ?_
    refine w_ (p_loadOw 2 Tryz.isAgg76 Tryz.sizeOf76 rfl rfl rfl rfl rfl) ?_
    refine a_storeOw 1 Tryz.sizeOf76 rfl rfl rfl rfl rfl rfl rfl ?_
    refine aw_nil ?_
    refine ac_ret ?_
    exact retB_1 Tryz.results204 (rv_cell 1 Tryz.isAgg76 Tryz.sizeOf76 rfl rfl rfl rfl rfl) (rfl)

theorem d_crowd_freshN {p : Pt} (hn : Nml p.c) (hk : Cs 4294967294 1073741824 p.c) : Does Tryz.prog 204 [.agg (ofPt p)] (.agg (ofPt p)) := by
  have h := d_crowd_fresh (id := p.id) (isInts_n p.c.x) (isInts_n p.c.y) (isInt_n p.c.d) hk
  rw [Crv.norm_of hn] at h
  exact h

end Orr

namespace Orr
open Go Go.Proofs
set_option maxRecDepth 20000 in
theorem d_crowd_at {l : List Pt} {id : Int} (hl : l.length < 1073741824) : Does Tryz.prog 203 [.agg [pts l], .one (.int .i64 id)] (.tup [.one (.int .i64 (((pos l id : Nat) : Int))), .one (.bool (has l id))]) := by
  refine does_ (n := 40) Tryz.func203 rfl Tryz.ntmps203 rfl ?_
  refine ac_seq ?_
  refine ac_reg ?_
  refine w_ (p_boxS rfl rfl rfl rfl) ?_
  refine w_ (p_assign rfl rfl) ?_
  refine w_ (p_assign rfl rfl) ?_
  refine aw_nil ?_
  refine ac_seq ?_
  refine ac_reg ?_
  refine w_ (p_assign rfl rfl) ?_
  refine aw_nil ?_
  refine ac_seq ?_
  refine ac_block ?_
  refine ac_pick [1, 2, 6] rfl ?_
  refine ac_loop (fun m L B => ∃ k, k ≤ l.length ∧ (∀ j p, j < k → l[j]? = some p → p.id < id) ∧ m = l.length - k ∧ L = [(1, .one (.int .i64 id)), (2, .one (.sh [pts l])), (6, .one (.int .i64 ((k : Int))))] ∧ B = []) (m := _) ⟨0, Nat.zero_le _, fun j p hj => absurd hj (Nat.not_lt_zero _), rfl, rfl, rfl⟩ ?_
  rintro m L B ⟨k, hp0, hp1, hm, rfl, rfl⟩
  by_cases hlt : k < l.length
  · obtain ⟨p, hp⟩ : ∃ p, l[k]? = some p := ⟨_, List.getElem?_eq_getElem hlt⟩
    by_cases hid : p.id < id
    · skip
      refine ac_seq ?_
      refine ac_seq ?_
      refine ac_reg ?_
      refine w_ (p_move rfl rfl) ?_
      refine w_ (p_fieldSh fa_106_0 rfl rfl rfl) ?_
      refine w_ (p_loadSh Tryz.isAgg22 Tryz.sizeOf22 rfl rfl rfl rfl) ?_
      refine w_ (p_len (m := l.length) Tryz.runUnderlying22 rfl (rlen_pts _) rfl) ?_
      refine w_ (p_cmp rfl rfl rfl rfl) ?_
      refine w_ (p_move rfl rfl) ?_
      refine w_ ((p_grun rfl rfl (decide_eq_true (by omega)) (p_fieldSh fa_106_0 rfl rfl rfl))) ?_
      refine w_ ((p_grun rfl rfl (decide_eq_true (by omega)) (p_loadSh Tryz.isAgg22 Tryz.sizeOf22 rfl rfl rfl rfl))) ?_
      refine w_ ((p_grun rfl rfl (decide_eq_true (by omega)) (p_move rfl rfl))) ?_
      refine w_ ((p_grun rfl rfl (decide_eq_true (by omega)) (p_index (k) Tryz.runUnderlying22 Tryz.sizeOf76 rfl rfl (rfl) (map_get hp) rfl rfl))) ?_
      refine w_ ((p_grun rfl rfl (decide_eq_true (by omega)) (p_fieldSh fa_76_1 rfl rfl rfl))) ?_
      refine w_ ((p_grun rfl rfl (decide_eq_true (by omega)) (p_loadSh Tryz.isAgg3 Tryz.sizeOf3 rfl rfl rfl rfl))) ?_
      refine w_ ((p_grun rfl rfl (decide_eq_true (by omega)) (p_move rfl rfl))) ?_
      refine w_ ((p_grun rfl rfl (decide_eq_true (by omega)) (p_cmp rfl rfl rfl rfl))) ?_
      refine w_ (p_pickT rfl (decide_eq_true (by omega)) rfl rfl) ?_
      refine aw_nil ?_
      refine ac_t rfl (decide_eq_true hid) ?_
      refine ac_skip ?_
      refine ac_block ?_
      refine ac_reg ?_
      refine w_ (p_move rfl rfl) ?_
      refine w_ (p_add (r := ((k + 1 : Nat) : Int)) rfl rfl (i64_is (by omega) (by omega)) rfl) ?_
      refine w_ (p_assign rfl rfl) ?_
      refine aw_pick [1, 2, 6] rfl ?_
      refine aw_nil ?_
      refine ⟨_, ?_, k + 1, by omega, fun j q hj hq => by
          rcases Nat.lt_or_ge j k with h1 | h1
          · exact hp1 j q h1 hq
          · rw [show j = k from by omega, hp] at hq; injection hq with hq; rw [← hq]; exact hid, rfl, rfl, rfl⟩
      omega
    · skip
      refine ac_seq ?_
      refine ac_seq ?_
      refine ac_reg ?_
      refine w_ (p_move rfl rfl) ?_
      refine w_ (p_fieldSh fa_106_0 rfl rfl rfl) ?_
      refine w_ (p_loadSh Tryz.isAgg22 Tryz.sizeOf22 rfl rfl rfl rfl) ?_
      refine w_ (p_len (m := l.length) Tryz.runUnderlying22 rfl (rlen_pts _) rfl) ?_
      refine w_ (p_cmp rfl rfl rfl rfl) ?_
      refine w_ (p_move rfl rfl) ?_
      refine w_ ((p_grun rfl rfl (decide_eq_true (by omega)) (p_fieldSh fa_106_0 rfl rfl rfl))) ?_
      refine w_ ((p_grun rfl rfl (decide_eq_true (by omega)) (p_loadSh Tryz.isAgg22 Tryz.sizeOf22 rfl rfl rfl rfl))) ?_
      refine w_ ((p_grun rfl rfl (decide_eq_true (by omega)) (p_move rfl rfl))) ?_
      refine w_ ((p_grun rfl rfl (decide_eq_true (by omega)) (p_index (k) Tryz.runUnderlying22 Tryz.sizeOf76 rfl rfl (rfl) (map_get hp) rfl rfl))) ?_
      refine w_ ((p_grun rfl rfl (decide_eq_true (by omega)) (p_fieldSh fa_76_1 rfl rfl rfl))) ?_
      refine w_ ((p_grun rfl rfl (decide_eq_true (by omega)) (p_loadSh Tryz.isAgg3 Tryz.sizeOf3 rfl rfl rfl rfl))) ?_
      refine w_ ((p_grun rfl rfl (decide_eq_true (by omega)) (p_move rfl rfl))) ?_
      refine w_ ((p_grun rfl rfl (decide_eq_true (by omega)) (p_cmp rfl rfl rfl rfl))) ?_
      refine w_ (p_pickT rfl (decide_eq_true (by omega)) rfl rfl) ?_
      refine aw_nil ?_
      refine ac_f rfl (decide_eq_false hid) ?_
      refine ac_exit ?_
      repeat refine seqQ_exit ?_
      refine blkQ_here ?_
      refine ac_seq ?_
      refine ac_draw mixed_ 17 [24, 25, 26, 27, 28, 29, 30, 31, 32, 33, 34, 35, 36, 37, 38, 39, 4] [[], [], [], [2], [3], [1, 4], [5], [6], [6, 7], [6], [6, 8, 9], [6, 10], [6, 11], [6], [6, 12, 13], [6, 14], [0]] [.one (.int .i64 ((k : Int))), .one (.int .i64 ((k : Int))), .one (.sh [pts l]), .one (pts l), .one (.int .i64 (((l.length : Nat) : Int))), .one (.bool ((decide (((k : Int)) < (((l.length : Nat) : Int)))))), .one (.bool ((decide (((k : Int)) < (((l.length : Nat) : Int)))))), .one (.sh [pts l]), .one (pts l), .one (.int .i64 ((k : Int))), .one (.sh [pl p.c.x, pl p.c.y, sg p.c.d, mg p.c.d, .int .i64 p.id]), .one (.sh [.int .i64 p.id]), .one (.int .i64 p.id), .one (.int .i64 id), .one (.bool ((decide (p.id = id)))), .one (.bool ((decide (p.id = id)))), .one (.int .i64 ((k : Int)))] rfl rfl rfl ⟨p_move rfl rfl, p_move rfl rfl, p_fieldSh fa_106_0 rfl rfl rfl, p_loadSh Tryz.isAgg22 Tryz.sizeOf22 rfl rfl rfl rfl, p_len (m := l.length) Tryz.runUnderlying22 rfl (rlen_pts _) rfl, p_cmp rfl rfl rfl rfl, p_move rfl rfl, (p_grun rfl rfl (decide_eq_true (by omega)) (p_fieldSh fa_106_0 rfl rfl rfl)), (p_grun rfl rfl (decide_eq_true (by omega)) (p_loadSh Tryz.isAgg22 Tryz.sizeOf22 rfl rfl rfl rfl)), (p_grun rfl rfl (decide_eq_true (by omega)) (p_move rfl rfl)), (p_grun rfl rfl (decide_eq_true (by omega)) (p_index (k) Tryz.runUnderlying22 Tryz.sizeOf76 rfl rfl (rfl) (map_get hp) rfl rfl)), (p_grun rfl rfl (decide_eq_true (by omega)) (p_fieldSh fa_76_1 rfl rfl rfl)), (p_grun rfl rfl (decide_eq_true (by omega)) (p_loadSh Tryz.isAgg3 Tryz.sizeOf3 rfl rfl rfl rfl)), (p_grun rfl rfl (decide_eq_true (by omega)) (p_move rfl rfl)), (p_grun rfl rfl (decide_eq_true (by omega)) (p_cmp rfl rfl rfl rfl)), p_pickT rfl (decide_eq_true (by omega)) rfl rfl, p_assign rfl rfl, trivial⟩ rfl ?_
      refine w_ (p_assign rfl rfl) ?_
      refine aw_nil ?_
      have hpos := pos_eq hp1 (.inr ⟨p, hp, hid⟩)
      have hhas : has l id = decide (p.id = id) := by unfold has; rw [hpos, hp]
      refine ac_ret ?_
      exact retB_2 Tryz.results203 (rv_tmp rfl rfl) (rv_tmp rfl rfl) (by rw [hpos, hhas])
  · skip
    refine ac_seq ?_
    refine ac_seq ?_
    refine ac_reg ?_
    refine w_ (p_move rfl rfl) ?_
    refine w_ (p_fieldSh fa_106_0 rfl rfl rfl) ?_
    refine w_ (p_loadSh Tryz.isAgg22 Tryz.sizeOf22 rfl rfl rfl rfl) ?_
    refine w_ (p_len (m := l.length) Tryz.runUnderlying22 rfl (rlen_pts _) rfl) ?_
    refine w_ (p_cmp rfl rfl rfl rfl) ?_
    refine w_ (p_move rfl rfl) ?_
    refine w_ (p_gskip rfl rfl (decide_eq_false (by omega)) rfl) ?_
    refine w_ (p_gskip rfl rfl (decide_eq_false (by omega)) rfl) ?_
    refine w_ (p_gskip rfl rfl (decide_eq_false (by omega)) rfl) ?_
    refine w_ (p_gskip rfl rfl (decide_eq_false (by omega)) rfl) ?_
    refine w_ (p_gskip rfl rfl (decide_eq_false (by omega)) rfl) ?_
    refine w_ (p_gskip rfl rfl (decide_eq_false (by omega)) rfl) ?_
    refine w_ (p_gskip rfl rfl (decide_eq_false (by omega)) rfl) ?_
    refine w_ (p_gskip rfl rfl (decide_eq_false (by omega)) rfl) ?_
    refine w_ (p_pickF rfl (decide_eq_false (by omega)) rfl rfl) ?_
    refine aw_nil ?_
    refine ac_f rfl (rfl) ?_
    refine ac_exit ?_
    repeat refine seqQ_exit ?_
    refine blkQ_here ?_
    refine ac_seq ?_
    refine ac_draw mixed_ 17 [24, 25, 26, 27, 28, 29, 30, 31, 32, 33, 34, 35, 36, 37, 38, 39, 4] [[], [], [], [2], [3], [1, 4], [5], [6], [6, 7], [6], [6, 8, 9], [6, 10], [6, 11], [6], [6, 12, 13], [6, 14], [0]] [.one (.int .i64 ((k : Int))), .one (.int .i64 ((k : Int))), .one (.sh [pts l]), .one (pts l), .one (.int .i64 (((l.length : Nat) : Int))), .one (.bool ((decide (((k : Int)) < (((l.length : Nat) : Int)))))), .one (.bool ((decide (((k : Int)) < (((l.length : Nat) : Int)))))), .un, .un, .un, .un, .un, .un, .un, .un, .one (.bool false), .one (.int .i64 ((k : Int)))] rfl rfl rfl ⟨p_move rfl rfl, p_move rfl rfl, p_fieldSh fa_106_0 rfl rfl rfl, p_loadSh Tryz.isAgg22 Tryz.sizeOf22 rfl rfl rfl rfl, p_len (m := l.length) Tryz.runUnderlying22 rfl (rlen_pts _) rfl, p_cmp rfl rfl rfl rfl, p_move rfl rfl, p_gskip rfl rfl (decide_eq_false (by omega)) rfl, p_gskip rfl rfl (decide_eq_false (by omega)) rfl, p_gskip rfl rfl (decide_eq_false (by omega)) rfl, p_gskip rfl rfl (decide_eq_false (by omega)) rfl, p_gskip rfl rfl (decide_eq_false (by omega)) rfl, p_gskip rfl rfl (decide_eq_false (by omega)) rfl, p_gskip rfl rfl (decide_eq_false (by omega)) rfl, p_gskip rfl rfl (decide_eq_false (by omega)) rfl, p_pickF rfl (decide_eq_false (by omega)) rfl rfl, p_assign rfl rfl, trivial⟩ rfl ?_
    refine w_ (p_assign rfl rfl) ?_
    refine aw_nil ?_
    have hk : k = l.length := by omega
    have hpos := pos_eq hp1 (.inl hk)
    have hhas : has l id = false := by unfold has; rw [hpos, List.getElem?_eq_none (by omega)]
    refine ac_ret ?_
    exact retB_2 Tryz.results203 (rv_tmp rfl rfl) (rv_tmp rfl rfl) (by rw [hpos, hhas])

theorem d_crowd_List {l : List Pt} : Does Tryz.prog 197 [.agg [pts l]] (.one (pts l)) := by
  refine does_ (n := 5) Tryz.func197 rfl Tryz.ntmps197 rfl ?_
  refine ac_seq ?_
  refine ac_reg ?_
  refine w_ (p_boxS rfl rfl rfl rfl) ?_
  refine w_ (p_assign rfl rfl) ?_
  refine aw_nil ?_
  refine ac_seq ?_
  refine ac_reg ?_
  refine w_ (p_fieldSh fa_106_0 rfl rfl rfl) ?_
  refine w_ (p_loadSh Tryz.isAgg22 Tryz.sizeOf22 rfl rfl rfl rfl) ?_
  refine w_ (p_assign rfl rfl) ?_
  refine aw_nil ?_
  refine ac_ret ?_
  exact retB_1 Tryz.results197 (rv_tmp rfl rfl) (rfl)

theorem d_crowd_Put {lx ly : List (List LV)} {px py : List Int} {b : Bool} {ll : List Nat} {d id : Int} {l : List Pt} (hx : IsInts lx px) (hy : IsInts ly py) (hd : IsInt (.bool b) (u32r ll) d) (hk : Cs 4294967294 1073741824 (Crv.mk px py d)) (hl : l.length ≤ 1000000) : Does Tryz.prog 119 [.agg [pts l], .agg [.row lx, .row ly, .bool b, u32r ll, .int .i64 id]] (.tup [.agg [pts ((if putE l (Pt.mk (Crv.norm (Crv.mk px py d)) id) = 0 then put l (Pt.mk (Crv.norm (Crv.mk px py d)) id) else l))], .one (.int .i64 (putE l (Pt.mk (Crv.norm (Crv.mk px py d)) id)))]) := by
  refine does_ (n := 42) Tryz.func119 rfl Tryz.ntmps119 rfl ?_
  have hpl := pos_le l id
  have htl : (l.take (pos l id)).length = pos l id := by rw [List.length_take]; omega
  have hdl : (l.drop (pos l id)).length = l.length - pos l id := List.length_drop ..
  by_cases h1 : has l id = true
  · skip
    refine ac_seq ?_
    refine ac_reg ?_
    refine w_ (p_boxS rfl rfl rfl rfl) ?_
    refine w_ (p_boxS rfl rfl rfl rfl) ?_
    refine a_alloc Tryz.zeroValue106 rfl rfl fun g1 => ?_
    refine w_ (p_assign rfl rfl) ?_
    refine aw_nil ?_
    refine ac_seq ?_
    refine ac_reg ?_
    refine w_ (p_loadSh Tryz.isAgg106 Tryz.sizeOf106 rfl rfl rfl rfl) ?_
    refine w_ (p_fieldSh fa_76_1 rfl rfl rfl) ?_
    refine w_ (p_loadSh Tryz.isAgg3 Tryz.sizeOf3 rfl rfl rfl rfl) ?_
    refine w_ (p_call Tryz.func203 rfl rfl rfl rfl (d_crowd_at (by omega)) rfl) ?_
    refine w_ (p_move rfl rfl) ?_
    refine w_ (p_extract rfl rfl rfl) ?_
    refine w_ (p_extract rfl rfl rfl) ?_
    refine w_ (p_assign rfl rfl) ?_
    refine w_ (p_assign rfl rfl) ?_
    refine aw_nil ?_
    refine ac_seq ?_
    refine ac_block ?_
    refine ac_seq ?_
    refine ac_reg ?_
    refine w_ (p_move rfl rfl) ?_
    refine w_ (p_assign rfl rfl) ?_
    refine aw_nil ?_
    refine ac_t rfl (h1) ?_
    refine ac_seq ?_
    refine ac_reg ?_
    refine w_ (p_loadSh Tryz.isAgg106 Tryz.sizeOf106 rfl rfl rfl rfl) ?_
    refine a_storeOw 0 Tryz.sizeOf106 rfl rfl rfl rfl rfl rfl rfl ?_
    refine w_ (p_assign rfl rfl) ?_
    refine aw_nil ?_
    have he : putE l (Pt.mk (Crv.norm (Crv.mk px py d)) id) = 6 := by unfold putE; rw [if_pos h1]
    refine ac_ret ?_
    exact retB_2 Tryz.results119 (rv_cell 0 Tryz.isAgg106 Tryz.sizeOf106 rfl rfl rfl rfl rfl) (rv_tmp rfl rfl) (by rw [he]; rfl)
  · replace h1 : has l id = false := by simpa using h1
    by_cases h2 : 6 ≤ l.length
    · skip
      refine ac_seq ?_
      refine ac_reg ?_
      refine w_ (p_boxS rfl rfl rfl rfl) ?_
      refine w_ (p_boxS rfl rfl rfl rfl) ?_
      refine a_alloc Tryz.zeroValue106 rfl rfl fun g2 => ?_
      refine w_ (p_assign rfl rfl) ?_
      refine aw_nil ?_
      refine ac_seq ?_
      refine ac_reg ?_
      refine w_ (p_loadSh Tryz.isAgg106 Tryz.sizeOf106 rfl rfl rfl rfl) ?_
      refine w_ (p_fieldSh fa_76_1 rfl rfl rfl) ?_
      refine w_ (p_loadSh Tryz.isAgg3 Tryz.sizeOf3 rfl rfl rfl rfl) ?_
      refine w_ (p_call Tryz.func203 rfl rfl rfl rfl (d_crowd_at (by omega)) rfl) ?_
      refine w_ (p_move rfl rfl) ?_
      refine w_ (p_extract rfl rfl rfl) ?_
      refine w_ (p_extract rfl rfl rfl) ?_
      refine w_ (p_assign rfl rfl) ?_
      refine w_ (p_assign rfl rfl) ?_
      refine aw_nil ?_
      refine ac_seq ?_
      refine ac_block ?_
      refine ac_seq ?_
      refine ac_reg ?_
      refine w_ (p_move rfl rfl) ?_
      refine w_ (p_assign rfl rfl) ?_
      refine aw_nil ?_
      refine ac_f rfl (h1) ?_
      refine ac_seq ?_
      refine ac_reg ?_
      refine w_ (p_fieldSh fa_106_0 rfl rfl rfl) ?_
      refine w_ (p_loadSh Tryz.isAgg22 Tryz.sizeOf22 rfl rfl rfl rfl) ?_
      refine w_ (p_len (m := l.length) Tryz.runUnderlying22 rfl (rlen_pts _) rfl) ?_
      refine w_ (p_cmp rfl rfl rfl rfl) ?_
      refine w_ (p_assign rfl rfl) ?_
      refine aw_nil ?_
      refine ac_t rfl (decide_eq_true (by omega)) ?_
      refine ac_seq ?_
      refine ac_reg ?_
      refine w_ (p_loadSh Tryz.isAgg106 Tryz.sizeOf106 rfl rfl rfl rfl) ?_
      refine a_storeOw 0 Tryz.sizeOf106 rfl rfl rfl rfl rfl rfl rfl ?_
      refine w_ (p_assign rfl rfl) ?_
      refine aw_nil ?_
      have he : putE l (Pt.mk (Crv.norm (Crv.mk px py d)) id) = 9 := by unfold putE; rw [if_neg (by rw [h1]; decide), if_pos h2]
      refine ac_ret ?_
      exact retB_2 Tryz.results119 (rv_cell 0 Tryz.isAgg106 Tryz.sizeOf106 rfl rfl rfl rfl rfl) (rv_tmp rfl rfl) (by rw [he]; rfl)
    · skip
      refine ac_seq ?_
      refine ac_reg ?_
      refine w_ (p_boxS rfl rfl rfl rfl) ?_
      refine w_ (p_boxS rfl rfl rfl rfl) ?_
      refine a_alloc Tryz.zeroValue106 rfl rfl fun g3 => ?_
      refine w_ (p_assign rfl rfl) ?_
      refine aw_nil ?_
      refine ac_seq ?_
      refine ac_reg ?_
      refine w_ (p_loadSh Tryz.isAgg106 Tryz.sizeOf106 rfl rfl rfl rfl) ?_
      refine w_ (p_fieldSh fa_76_1 rfl rfl rfl) ?_
      refine w_ (p_loadSh Tryz.isAgg3 Tryz.sizeOf3 rfl rfl rfl rfl) ?_
      refine w_ (p_call Tryz.func203 rfl rfl rfl rfl (d_crowd_at (by omega)) rfl) ?_
      refine w_ (p_move rfl rfl) ?_
      refine w_ (p_extract rfl rfl rfl) ?_
      refine w_ (p_extract rfl rfl rfl) ?_
      refine w_ (p_assign rfl rfl) ?_
      refine w_ (p_assign rfl rfl) ?_
      refine aw_nil ?_
      refine ac_seq ?_
      refine ac_block ?_
      refine ac_seq ?_
      refine ac_reg ?_
      refine w_ (p_move rfl rfl) ?_
      refine w_ (p_assign rfl rfl) ?_
      refine aw_nil ?_
      refine ac_f rfl (h1) ?_
      refine ac_seq ?_
      refine ac_reg ?_
      refine w_ (p_fieldSh fa_106_0 rfl rfl rfl) ?_
      refine w_ (p_loadSh Tryz.isAgg22 Tryz.sizeOf22 rfl rfl rfl rfl) ?_
      refine w_ (p_len (m := l.length) Tryz.runUnderlying22 rfl (rlen_pts _) rfl) ?_
      refine w_ (p_cmp rfl rfl rfl rfl) ?_
      refine w_ (p_assign rfl rfl) ?_
      refine aw_nil ?_
      refine ac_f rfl (decide_eq_false (by omega)) ?_
      refine ac_skip ?_
      refine ac_seq ?_
      refine ac_reg ?_
      refine w_ (p_fieldSh fa_106_0 rfl rfl rfl) ?_
      refine w_ (p_loadSh Tryz.isAgg22 Tryz.sizeOf22 rfl rfl rfl rfl) ?_
      refine w_ (p_move rfl rfl) ?_
      refine w_ (p_sliceHi (pos l id) Tryz.runUnderlying22 Tryz.sizeOf76 rfl rfl rfl (by rw [List.length_map]; exact pos_le l id) (map_w l (fun _ => rfl)) (l' := (l.take (pos l id)).map ofPt) (by rw [List.map_take]) rfl) ?_
      refine a_appendN (ls2 := (l.take (pos l id)).map ofPt) (m2 := (l.take (pos l id)).length) Tryz.runUnderlying22 Tryz.runUnderlying22 Tryz.typeInfo76 rfl rfl Tryz.sizeOf76 Tryz.zeroValue76 rfl rfl rfl rfl rfl rfl rfl (map_w _ (fun _ => rfl)) (map_f _ (fun _ => rfl)) (by rw [List.length_map]; omega) (rfl) (List.length_map _) fun r4 => ?_
      refine w_ (p_assign rfl rfl) ?_
      refine aw_nil ?_
      refine ac_seq ?_
      refine ac_reg ?_
      refine w_ (p_move rfl rfl) ?_
      refine w_ (p_loadSh Tryz.isAgg76 Tryz.sizeOf76 rfl rfl rfl rfl) ?_
      refine w_ (p_call Tryz.func204 rfl rfl rfl rfl (d_crowd_fresh hx hy hd (hk)) rfl) ?_
      refine w_ (p_lit Tryz.runUnderlying22 Tryz.sizeOf76 Tryz.zeroValue76 rfl rfl rfl rfl rfl rfl rfl rfl rfl rfl) ?_
      refine a_append (ls2 := (l.take (pos l id) ++ [(Pt.mk (Crv.norm (Crv.mk px py d)) id)]).map ofPt) (m2 := (l.take (pos l id)).length + 1) 0 Tryz.runUnderlying22 Tryz.runUnderlying22 Tryz.typeInfo76 rfl rfl Tryz.sizeOf76 Tryz.zeroValue76 rfl rfl rfl rfl rfl rfl rfl (by rw [List.length_map]; omega) (one_w rfl) (one_f rfl) (by show _ + 1 < _; omega) (by rw [List.take_of_length_le (by rw [List.length_map]; omega), List.map_append]; rfl) (rfl) fun r5 => ?_
      refine w_ (p_assign rfl rfl) ?_
      refine aw_nil ?_
      refine ac_seq ?_
      refine ac_reg ?_
      refine w_ (p_move rfl rfl) ?_
      refine w_ (p_fieldSh fa_106_0 rfl rfl rfl) ?_
      refine w_ (p_loadSh Tryz.isAgg22 Tryz.sizeOf22 rfl rfl rfl rfl) ?_
      refine w_ (p_move rfl rfl) ?_
      refine w_ (p_sliceLo (pos l id) Tryz.runUnderlying22 Tryz.sizeOf76 rfl rfl rfl (by rw [List.length_map]; exact pos_le l id) (map_w l (fun _ => rfl)) (l' := (l.drop (pos l id)).map ofPt) (by rw [List.map_drop]) rfl) ?_
      refine a_append (ls2 := (put l (Pt.mk (Crv.norm (Crv.mk px py d)) id)).map ofPt) (m2 := (l.take (pos l id)).length + 1 + (l.drop (pos l id)).length) 0 Tryz.runUnderlying22 Tryz.runUnderlying22 Tryz.typeInfo76 rfl rfl Tryz.sizeOf76 Tryz.zeroValue76 rfl rfl rfl rfl rfl rfl rfl (by rw [List.length_map, List.length_append]; exact Nat.le_refl _) (map_w _ (fun _ => rfl)) (map_f _ (fun _ => rfl)) (by rw [List.length_map]; omega) (by rw [List.take_of_length_le (by rw [List.length_map, List.length_append]; exact Nat.le_refl _), ← List.map_append, List.append_assoc]; rfl) (by rw [List.length_map]) fun r6 => ?_
      refine aw_pub 0 [40] rfl (allAre1 rfl) (by rw [List.length_map, put_len]; omega) (by rw [List.length_map, put_len]; omega) rfl ?_
      refine w_ (p_build (bd_106) rfl rfl rfl rfl) ?_
      refine a_storeOw 0 Tryz.sizeOf106 rfl rfl rfl rfl rfl rfl rfl ?_
      refine w_ (p_assign rfl rfl) ?_
      refine aw_nil ?_
      have he : putE l (Pt.mk (Crv.norm (Crv.mk px py d)) id) = 0 := by unfold putE; rw [if_neg (by rw [h1]; decide), if_neg h2]
      refine ac_ret ?_
      exact retB_2 Tryz.results119 (rv_cell 0 Tryz.isAgg106 Tryz.sizeOf106 rfl rfl rfl rfl rfl) (rv_tmp rfl rfl) (by rw [he]; rfl)

theorem newL_len : ∀ (qs : List Pt), (newL [] qs).1.length ≤ qs.length := by
  have key : ∀ (qs acc : List Pt), (newL acc qs).1.length ≤ acc.length + qs.length := by
    intro qs
    induction qs with
    | nil => intro acc; simp [newL]
    | cons q qs ih =>
      intro acc
      simp only [newL]
      split
      · have := ih (put acc q); rw [put_len] at this; simp only [List.length_cons]; omega
      · simp
  intro qs
  have := key qs []
  simpa using this

theorem d_crowd_New {zs : List (List LV)} {qs : List Pt} (hz : IsPts 4294967294 1073741824 zs qs) (hl : qs.length ≤ 6) : Does Tryz.prog 114 [.one (.row zs)] (.tup [.agg [pts ((newL [] qs).1)], .one (.int .i64 ((newL [] qs).2))]) := by
  refine does_ (n := 30) Tryz.func114 rfl Tryz.ntmps114 rfl ?_
  refine ac_seq ?_
  refine ac_reg ?_
  refine a_alloc Tryz.zeroValue106 rfl rfl fun g1 => ?_
  refine w_ (p_assign rfl rfl) ?_
  refine aw_nil ?_
  refine ac_seq ?_
  refine ac_seq ?_
  refine ac_reg ?_
  refine w_ (p_move rfl rfl) ?_
  refine w_ (p_len (m := qs.length) Tryz.runUnderlying22 rfl (by simp only [rlen]; rw [hz.len]) rfl) ?_
  refine w_ (p_cmp rfl rfl rfl rfl) ?_
  refine aw_nil ?_
  refine ac_f rfl (decide_eq_false (by omega)) ?_
  refine ac_skip ?_
  refine ac_seq ?_
  refine ac_reg ?_
  refine a_alloc Tryz.zeroValue106 rfl rfl fun g2 => ?_
  refine aw_nil ?_
  refine ac_seq ?_
  refine ac_seq ?_
  refine ac_reg ?_
  refine w_ (p_move rfl rfl) ?_
  refine w_ (p_len (m := qs.length) Tryz.runUnderlying22 rfl (by simp only [rlen]; rw [hz.len]) rfl) ?_
  refine w_ (p_move rfl rfl) ?_
  refine aw_nil ?_
  refine ac_block ?_
  refine ac_blk (ys := [pts ((newL [] (qs.take 0)).1)]) 0 rfl rfl rfl ?_
  refine ac_pick [2, 3, 4, 12, 13, 14] rfl ?_
  refine ac_loop (fun m L B => ∃ i, i ≤ qs.length ∧ (newL [] (qs.take i)).2 = 0 ∧ m = qs.length - i ∧ L = [(2, .one (.ow g1 0)), (3, .one (.int .i64 0)), (4, .one (.ow g2 0)), (12, .one (.row zs)), (13, .one (.int .i64 (((qs.length : Nat) : Int)))), (14, .one (.int .i64 ((i : Int))))] ∧ B = [.blk g2 106 [pts ((newL [] (qs.take i)).1)], .blk g1 106 [.nils]]) (m := _) ⟨0, Nat.zero_le _, rfl, rfl, rfl, rfl⟩ ?_
  rintro m L B ⟨i, hp0, hp1, hm, rfl, rfl⟩
  by_cases hlt : i < qs.length
  · have hqi : qs[i]? = some qs[i] := List.getElem?_eq_getElem hlt
    obtain ⟨z, hz, lx, ly, b, ll, px, py, d, rfl, hx, hy, hd, hk, hc⟩ := hz.get hqi
    have hq : (Pt.mk (Crv.norm (Crv.mk px py d)) qs[i].id) = qs[i] := by rw [← hc]
    have hst := newL_step [] qs hqi (by rw [← hp1])
    have hnl := newL_len (qs.take i)
    rw [List.length_take, Nat.min_eq_left hp0] at hnl
    by_cases he : putE (newL [] (qs.take i)).1 (Pt.mk (Crv.norm (Crv.mk px py d)) qs[i].id) = 0
    · have hstep : (newL [] (qs.take (i + 1))).1 = put (newL [] (qs.take i)).1 (Pt.mk (Crv.norm (Crv.mk px py d)) qs[i].id) := by rw [hst, ← hq, if_pos he]
      have hst2 : (newL [] (qs.take (i + 1))).2 = 0 := by rw [hst, ← hq, if_pos he]
      refine ac_seq ?_
      refine ac_reg ?_
      refine w_ (p_cmp rfl rfl rfl rfl) ?_
      refine aw_nil ?_
      refine ac_seq ?_
      refine ac_t rfl (decide_eq_true (by omega)) ?_
      refine ac_skip ?_
      refine ac_seq ?_
      refine ac_block ?_
      refine ac_seq ?_
      refine ac_reg ?_
      refine w_ (p_index (i) Tryz.runUnderlying22 Tryz.sizeOf76 rfl rfl (rfl) (hz) rfl rfl) ?_
      refine w_ (p_loadSh Tryz.isAgg76 Tryz.sizeOf76 rfl rfl rfl rfl) ?_
      refine a_alloc Tryz.zeroValue76 rfl rfl fun g3 => ?_
      refine a_storeOw 0 Tryz.sizeOf76 rfl rfl rfl rfl rfl rfl rfl ?_
      refine aw_nil ?_
      refine ac_seq ?_
      refine ac_reg ?_
      refine w_ (p_assign rfl rfl) ?_
      refine aw_nil ?_
      refine ac_seq ?_
      refine ac_reg ?_
      refine w_ (p_loadOw 1 Tryz.isAgg106 Tryz.sizeOf106 rfl rfl rfl rfl rfl) ?_
      refine w_ (p_loadOw 0 Tryz.isAgg76 Tryz.sizeOf76 rfl rfl rfl rfl rfl) ?_
      refine w_ (p_call Tryz.func119 rfl rfl rfl rfl (d_crowd_Put hx hy hd (hk) (by omega)) rfl) ?_
      refine w_ (p_move rfl rfl) ?_
      refine w_ (p_extract rfl rfl rfl) ?_
      refine w_ (p_extract rfl rfl rfl) ?_
      refine a_storeOw 1 Tryz.sizeOf106 rfl rfl rfl rfl rfl rfl rfl ?_
      refine w_ (p_assign rfl rfl) ?_
      refine aw_nil ?_
      refine ac_seq ?_
      refine ac_reg ?_
      refine w_ (p_move rfl rfl) ?_
      refine w_ (p_cmp rfl rfl rfl rfl) ?_
      refine aw_nil ?_
      refine ac_f rfl (decide_eq_false (fun h => h he)) ?_
      refine ac_skip ?_
      refine ac_reg ?_
      refine w_ (p_add (r := ((i + 1 : Nat) : Int)) rfl rfl (i64_is (by omega) (by omega)) rfl) ?_
      refine w_ (p_move rfl rfl) ?_
      refine aw_blk (ys := [pts ((newL [] (qs.take (i + 1))).1)]) 1 rfl rfl (by rw [if_pos he, hstep]) ?_
      refine aw_pick [2, 3, 4, 12, 13, 14] rfl ?_
      refine aw_drop 1 rfl ?_
      refine aw_nil ?_
      refine ⟨_, ?_, i + 1, by omega, hst2, rfl, rfl, rfl⟩
      omega
    · have herr : newL [] qs = ([], putE (newL [] (qs.take i)).1 (Pt.mk (Crv.norm (Crv.mk px py d)) qs[i].id)) := newL_err [] qs he (by rw [hst, ← hq, if_neg he])
      refine ac_seq ?_
      refine ac_reg ?_
      refine w_ (p_cmp rfl rfl rfl rfl) ?_
      refine aw_nil ?_
      refine ac_seq ?_
      refine ac_t rfl (decide_eq_true (by omega)) ?_
      refine ac_skip ?_
      refine ac_seq ?_
      refine ac_block ?_
      refine ac_seq ?_
      refine ac_reg ?_
      refine w_ (p_index (i) Tryz.runUnderlying22 Tryz.sizeOf76 rfl rfl (rfl) (hz) rfl rfl) ?_
      refine w_ (p_loadSh Tryz.isAgg76 Tryz.sizeOf76 rfl rfl rfl rfl) ?_
      refine a_alloc Tryz.zeroValue76 rfl rfl fun g4 => ?_
      refine a_storeOw 0 Tryz.sizeOf76 rfl rfl rfl rfl rfl rfl rfl ?_
      refine aw_nil ?_
      refine ac_seq ?_
      refine ac_reg ?_
      refine w_ (p_assign rfl rfl) ?_
      refine aw_nil ?_
      refine ac_seq ?_
      refine ac_reg ?_
      refine w_ (p_loadOw 1 Tryz.isAgg106 Tryz.sizeOf106 rfl rfl rfl rfl rfl) ?_
      refine w_ (p_loadOw 0 Tryz.isAgg76 Tryz.sizeOf76 rfl rfl rfl rfl rfl) ?_
      refine w_ (p_call Tryz.func119 rfl rfl rfl rfl (d_crowd_Put hx hy hd (hk) (by omega)) rfl) ?_
      refine w_ (p_move rfl rfl) ?_
      refine w_ (p_extract rfl rfl rfl) ?_
      refine w_ (p_extract rfl rfl rfl) ?_
      refine a_storeOw 1 Tryz.sizeOf106 rfl rfl rfl rfl rfl rfl rfl ?_
      refine w_ (p_assign rfl rfl) ?_
      refine aw_nil ?_
      refine ac_seq ?_
      refine ac_reg ?_
      refine w_ (p_move rfl rfl) ?_
      refine w_ (p_cmp rfl rfl rfl rfl) ?_
      refine aw_nil ?_
      refine ac_t rfl (decide_eq_true he) ?_
      refine ac_seq ?_
      refine ac_reg ?_
      refine w_ (p_build (bd_106) rfl rfl rfl rfl) ?_
      refine w_ (p_move rfl rfl) ?_
      refine a_storeOw 2 Tryz.sizeOf106 rfl rfl rfl rfl rfl rfl rfl ?_
      refine w_ (p_assign rfl rfl) ?_
      refine aw_nil ?_
      refine ac_ret ?_
      exact retB_2 Tryz.results114 (rv_cell 2 Tryz.isAgg106 Tryz.sizeOf106 rfl rfl rfl rfl rfl) (rv_tmp rfl rfl) (by rw [herr]; rfl)
  · skip
    refine ac_seq ?_
    refine ac_reg ?_
    refine w_ (p_cmp rfl rfl rfl rfl) ?_
    refine aw_nil ?_
    refine ac_seq ?_
    refine ac_f rfl (decide_eq_false (by omega)) ?_
    refine ac_exit ?_
    repeat refine seqQ_exit ?_
    refine blkQ_here ?_
    refine ac_seq ?_
    refine ac_reg ?_
    refine w_ (p_loadOw 0 Tryz.isAgg106 Tryz.sizeOf106 rfl rfl rfl rfl rfl) ?_
    refine a_storeOw 1 Tryz.sizeOf106 rfl rfl rfl rfl rfl rfl rfl ?_
    refine w_ (p_assign rfl rfl) ?_
    refine aw_nil ?_
    have hi : qs.take i = qs := List.take_of_length_le (by omega)
    rw [hi] at hp1
    refine ac_ret ?_
    exact retB_2 Tryz.results114 (rv_cell 1 Tryz.isAgg106 Tryz.sizeOf106 rfl rfl rfl rfl rfl) (rv_tmp rfl rfl) (by rw [hi, hp1])

theorem d_crowd_NewFull {zs : List (List LV)} {qs : List Pt} (hz : IsPts 4294967294 1073741824 zs qs) (hl : 6 < qs.length) : Does Tryz.prog 114 [.one (.row zs)] (.tup [.agg [pts ([])], .one (.int .i64 9)]) := by
  refine does_ (n := 30) Tryz.func114 rfl Tryz.ntmps114 rfl ?_
  refine ac_seq ?_
  refine ac_reg ?_
  refine a_alloc Tryz.zeroValue106 rfl rfl fun g1 => ?_
  refine w_ (p_assign rfl rfl) ?_
  refine aw_nil ?_
  refine ac_seq ?_
  refine ac_seq ?_
  refine ac_reg ?_
  refine w_ (p_move rfl rfl) ?_
  refine w_ (p_len (m := qs.length) Tryz.runUnderlying22 rfl (by simp only [rlen]; rw [hz.len]) rfl) ?_
  refine w_ (p_cmp rfl rfl rfl rfl) ?_
  refine aw_nil ?_
  refine ac_t rfl (decide_eq_true (by omega)) ?_
  refine ac_seq ?_
  refine ac_reg ?_
  refine w_ (p_build (bd_106) rfl rfl rfl rfl) ?_
  refine a_storeOw 0 Tryz.sizeOf106 rfl rfl rfl rfl rfl rfl rfl ?_
  refine w_ (p_assign rfl rfl) ?_
  refine aw_nil ?_
  refine ac_ret ?_
  exact retB_2 Tryz.results114 (rv_cell 0 Tryz.isAgg106 Tryz.sizeOf106 rfl rfl rfl rfl rfl) (rv_tmp rfl rfl) (rfl)

theorem d_crowd_All {l : List Pt} (hok : ∀ p ∈ l, PtOk 4294967294 1073741824 p) (hl : l.length < 1073741824) : Does Tryz.prog 120 [.agg [pts l]] (.one (pts l)) := by
  refine does_ (n := 20) Tryz.func120 rfl Tryz.ntmps120 rfl ?_
  refine ac_seq ?_
  refine ac_reg ?_
  refine w_ (p_boxS rfl rfl rfl rfl) ?_
  refine w_ (p_assign rfl rfl) ?_
  refine aw_nil ?_
  refine ac_seq ?_
  refine ac_reg ?_
  refine w_ (p_assign rfl rfl) ?_
  refine aw_nil ?_
  refine ac_seq ?_
  refine ac_seq ?_
  refine ac_reg ?_
  refine w_ (p_fieldSh fa_106_0 rfl rfl rfl) ?_
  refine w_ (p_loadSh Tryz.isAgg22 Tryz.sizeOf22 rfl rfl rfl rfl) ?_
  refine w_ (p_len (m := l.length) Tryz.runUnderlying22 rfl (rlen_pts _) rfl) ?_
  refine w_ (p_move rfl rfl) ?_
  refine aw_nil ?_
  refine ac_block ?_
  refine ac_ownNil [3] 76 5 rfl (allAre1 rfl) rfl ?_
  refine ac_pick [3, 7, 8, 9] rfl ?_
  refine ac_loop (fun m L B => ∃ i r, i ≤ l.length ∧ m = l.length - i ∧ L = [(3, .one (.orow r 5 0 i)), (7, .one (pts l)), (8, .one (.int .i64 (((l.length : Nat) : Int)))), (9, .one (.int .i64 ((i : Int))))] ∧ B = [.row r 76 5 ((l.take i).map ofPt)]) (m := _) ⟨0, none, Nat.zero_le _, rfl, rfl, rfl⟩ ?_
  rintro m L B ⟨i, r, hp0, hm, rfl, rfl⟩
  by_cases hlt : i < l.length
  · obtain ⟨p, hp⟩ : ∃ p, l[i]? = some p := ⟨_, List.getElem?_eq_getElem hlt⟩
    have hpk := hok p (List.mem_of_getElem? hp)
    refine ac_seq ?_
    refine ac_reg ?_
    refine w_ (p_cmp rfl rfl rfl rfl) ?_
    refine aw_nil ?_
    refine ac_seq ?_
    refine ac_t rfl (decide_eq_true (by omega)) ?_
    refine ac_skip ?_
    refine ac_seq ?_
    refine ac_block ?_
    refine ac_seq ?_
    refine ac_reg ?_
    refine w_ (p_index (i) Tryz.runUnderlying22 Tryz.sizeOf76 rfl rfl (rfl) (map_get hp) rfl rfl) ?_
    refine w_ (p_loadSh Tryz.isAgg76 Tryz.sizeOf76 rfl rfl rfl rfl) ?_
    refine a_alloc Tryz.zeroValue76 rfl rfl fun g1 => ?_
    refine a_storeOw 0 Tryz.sizeOf76 rfl rfl rfl rfl rfl rfl rfl ?_
    refine aw_nil ?_
    refine ac_reg ?_
    refine w_ (p_move rfl rfl) ?_
    refine w_ (p_loadOw 0 Tryz.isAgg76 Tryz.sizeOf76 rfl rfl rfl rfl rfl) ?_
    refine w_ (p_call Tryz.func204 rfl rfl rfl rfl (d_crowd_freshN (hpk.1) (hpk.2)) rfl) ?_
    refine w_ (p_lit Tryz.runUnderlying22 Tryz.sizeOf76 Tryz.zeroValue76 rfl rfl rfl rfl rfl rfl rfl rfl rfl rfl) ?_
    refine a_append (ls2 := (l.take (i + 1)).map ofPt) (m2 := i + 1) 1 Tryz.runUnderlying22 Tryz.runUnderlying22 Tryz.typeInfo76 rfl rfl Tryz.sizeOf76 Tryz.zeroValue76 rfl rfl rfl rfl rfl rfl rfl (by rw [List.length_map, List.length_take]; omega) (one_w rfl) (one_f rfl) (by show _ + 1 < _; omega) (by rw [List.take_of_length_le (by rw [List.length_map, List.length_take]; omega), List.take_add_one, hp, List.map_append]; rfl) (rfl) fun r2 => ?_
    refine w_ (p_assign rfl rfl) ?_
    refine aw_nil ?_
    refine ac_reg ?_
    refine w_ (p_add (r := ((i + 1 : Nat) : Int)) rfl rfl (i64_is (by omega) (by omega)) rfl) ?_
    refine w_ (p_move rfl rfl) ?_
    refine aw_pick [3, 7, 8, 9] rfl ?_
    refine aw_drop 1 rfl ?_
    refine aw_nil ?_
    refine ⟨_, ?_, i + 1, _, by omega, rfl, rfl, rfl⟩
    omega
  · have hi : l.take i = l := List.take_of_length_le (by omega)
    refine ac_seq ?_
    refine ac_reg ?_
    refine w_ (p_cmp rfl rfl rfl rfl) ?_
    refine aw_nil ?_
    refine ac_seq ?_
    refine ac_f rfl (decide_eq_false (by omega)) ?_
    refine ac_exit ?_
    repeat refine seqQ_exit ?_
    refine blkQ_here ?_
    refine ac_seq ?_
    refine ac_reg ?_
    refine w_ (p_move rfl rfl) ?_
    refine w_ (p_assign rfl rfl) ?_
    refine aw_nil ?_
    have hl47 := List.length_take_le i l
    refine ac_pub 0 [2] rfl (allAre1 rfl) (by rw [List.length_map, List.length_take]; omega) (by rw [List.length_map]; have := hl47; omega) rfl ?_
    refine ac_ret ?_
    exact retB_1 Tryz.results120 (rv_tmp rfl rfl) (by rw [hi]; rfl)

theorem d_crowd_Ways {l : List Pt} (hok : ∀ p ∈ l, PtOk 4294967294 1073741824 p) (hl : l.length < 1073741824) : Does Tryz.prog 208 [.agg [pts l]] (.one (pts ((ways l)))) := by
  refine does_ (n := 39) Tryz.func208 rfl Tryz.ntmps208 rfl ?_
  refine ac_seq ?_
  refine ac_reg ?_
  refine w_ (p_boxS rfl rfl rfl rfl) ?_
  refine w_ (p_assign rfl rfl) ?_
  refine aw_nil ?_
  refine ac_seq ?_
  refine ac_reg ?_
  refine w_ (p_assign rfl rfl) ?_
  refine aw_nil ?_
  refine ac_seq ?_
  refine ac_seq ?_
  refine ac_reg ?_
  refine w_ (p_fieldSh fa_106_0 rfl rfl rfl) ?_
  refine w_ (p_loadSh Tryz.isAgg22 Tryz.sizeOf22 rfl rfl rfl rfl) ?_
  refine w_ (p_len (m := l.length) Tryz.runUnderlying22 rfl (rlen_pts _) rfl) ?_
  refine w_ (p_move rfl rfl) ?_
  refine aw_nil ?_
  refine ac_block ?_
  refine ac_ownNil [3] 76 5 rfl (allAre1 rfl) rfl ?_
  refine ac_pick [3, 10, 11, 12] rfl ?_
  refine ac_loop (fun m L B => ∃ i r nw, i ≤ l.length ∧ nw = ((l.take i).foldl waysF []).length ∧ m = l.length - i ∧ L = [(3, .one (.orow r 5 0 nw)), (10, .one (pts l)), (11, .one (.int .i64 (((l.length : Nat) : Int)))), (12, .one (.int .i64 ((i : Int))))] ∧ B = [.row r 76 5 (((l.take i).foldl waysF []).map ofPt)]) (m := _) ⟨0, none, 0, Nat.zero_le _, rfl, rfl, rfl, rfl⟩ ?_
  rintro m L B ⟨i, r, nw, hp0, hp1, hm, rfl, rfl⟩
  have hwl := ways_take_len l i
  by_cases hlt : i < l.length
  · obtain ⟨p, hp⟩ : ∃ p, l[i]? = some p := ⟨_, List.getElem?_eq_getElem hlt⟩
    have hpk := hok p (List.mem_of_getElem? hp)
    have hws := foldl_take_succ waysF [] l hp
    refine ac_seq ?_
    refine ac_reg ?_
    refine w_ (p_cmp rfl rfl rfl rfl) ?_
    refine aw_nil ?_
    refine ac_seq ?_
    refine ac_t rfl (decide_eq_true (by omega)) ?_
    refine ac_skip ?_
    refine ac_seq ?_
    refine ac_block ?_
    refine ac_seq ?_
    refine ac_reg ?_
    refine w_ (p_index (i) Tryz.runUnderlying22 Tryz.sizeOf76 rfl rfl (rfl) (map_get hp) rfl rfl) ?_
    refine w_ (p_loadSh Tryz.isAgg76 Tryz.sizeOf76 rfl rfl rfl rfl) ?_
    refine a_alloc Tryz.zeroValue76 rfl rfl fun g1 => ?_
    refine a_storeOw 0 Tryz.sizeOf76 rfl rfl rfl rfl rfl rfl rfl ?_
    refine aw_nil ?_
    refine ac_seq ?_
    refine ac_reg ?_
    refine w_ (p_assign rfl rfl) ?_
    refine aw_nil ?_
    refine ac_seq ?_
    refine ac_seq ?_
    refine ac_reg ?_
    refine w_ (p_move rfl rfl) ?_
    refine w_ (p_len (m := nw) Tryz.runUnderlying22 rfl (rfl) rfl) ?_
    refine w_ (p_move rfl rfl) ?_
    refine aw_nil ?_
    refine ac_block ?_
    refine ac_pick [3, 5, 6, 10, 11, 12, 16, 17, 18] rfl ?_
    refine ac_front 0 rfl ?_
    refine ac_front 1 rfl ?_
    refine ac_loop (fun m L B => ∃ k, k ≤ nw ∧ m = nw - k ∧ L = [(3, .one (.orow r 5 0 nw)), (5, .one (.ow g1 0)), (6, .one (.bool (((((l.take i).foldl waysF []).take k).any (fun q => crvEq p.c q.c))))), (10, .one (pts l)), (11, .one (.int .i64 (((l.length : Nat) : Int)))), (12, .one (.int .i64 ((i : Int)))), (16, .one (.orow r 5 0 nw)), (17, .one (.int .i64 (((nw : Nat) : Int)))), (18, .one (.int .i64 ((k : Int))))] ∧ B = [.row r 76 5 (((l.take i).foldl waysF []).map ofPt), .blk g1 76 [pl p.c.x, pl p.c.y, sg p.c.d, mg p.c.d, .int .i64 p.id]]) (m := _) ⟨0, Nat.zero_le _, rfl, rfl, rfl⟩ ?_
    rintro m L B ⟨k, hk0, hm, rfl, rfl⟩
    by_cases hlt2 : k < nw
    · obtain ⟨q, hq⟩ : ∃ q, ((l.take i).foldl waysF [])[k]? = some q := ⟨_, List.getElem?_eq_getElem (by omega)⟩
      have hqk := hok q (ways_take_mem l i q (List.mem_of_getElem? hq))
      have hany : ((((l.take i).foldl waysF []).take (k + 1)).any (fun q => crvEq p.c q.c)) = (((((l.take i).foldl waysF []).take k).any (fun q => crvEq p.c q.c)) || crvEq p.c q.c) := by rw [List.take_add_one, hq, List.any_append]; simp
      rcases Bool.eq_false_or_eq_true ((((l.take i).foldl waysF []).take k).any (fun q => crvEq p.c q.c)) with hb | hb
      · rw [hb, Bool.true_or] at hany
        refine ac_seq ?_
        refine ac_reg ?_
        refine w_ (p_cmp rfl rfl rfl rfl) ?_
        refine aw_nil ?_
        refine ac_seq ?_
        refine ac_t rfl (decide_eq_true (by omega)) ?_
        refine ac_skip ?_
        refine ac_seq ?_
        refine ac_block ?_
        refine ac_seq ?_
        refine ac_reg ?_
        refine w_ (p_indexO (k) Tryz.runUnderlying22 Tryz.sizeOf76 rfl rfl (rfl) (by omega) rfl) ?_
        refine w_ (p_loadO 0 Tryz.isAgg76 Tryz.sizeOf76 rfl rfl (by rw [Nat.zero_add]; exact map_get hq) rfl rfl rfl) ?_
        refine a_alloc Tryz.zeroValue76 rfl rfl fun g2 => ?_
        refine a_storeOw 0 Tryz.sizeOf76 rfl rfl rfl rfl rfl rfl rfl ?_
        refine aw_nil ?_
        refine ac_reg ?_
        refine w_ (p_move rfl rfl) ?_
        refine w_ (p_move rfl rfl) ?_
        refine w_ (p_gskip rfl rfl (hb) rfl) ?_
        refine w_ (p_gskip rfl rfl (hb) rfl) ?_
        refine w_ (p_gskip rfl rfl (hb) rfl) ?_
        refine w_ (p_gskip rfl rfl (hb) rfl) ?_
        refine w_ (p_gskip rfl rfl (hb) rfl) ?_
        refine w_ (p_pickT rfl (hb) rfl rfl) ?_
        refine w_ (p_assign rfl rfl) ?_
        refine aw_nil ?_
        refine ac_reg ?_
        refine w_ (p_add (r := ((k + 1 : Nat) : Int)) rfl rfl (i64_is (by omega) (by omega)) rfl) ?_
        refine w_ (p_move rfl rfl) ?_
        refine aw_slotEq (y := .one (.bool ((((l.take i).foldl waysF []).take (k + 1)).any (fun q => crvEq p.c q.c)))) 6 rfl (by rw [hany]) ?_
        refine aw_pick [3, 5, 6, 10, 11, 12, 16, 17, 18] rfl ?_
        refine aw_drop 0 rfl ?_
        refine aw_nil ?_
        refine ⟨_, ?_, k + 1, by omega, rfl, rfl, rfl⟩
        omega
      · rw [hb, Bool.false_or] at hany
        refine ac_seq ?_
        refine ac_reg ?_
        refine w_ (p_cmp rfl rfl rfl rfl) ?_
        refine aw_nil ?_
        refine ac_seq ?_
        refine ac_t rfl (decide_eq_true (by omega)) ?_
        refine ac_skip ?_
        refine ac_seq ?_
        refine ac_block ?_
        refine ac_seq ?_
        refine ac_reg ?_
        refine w_ (p_indexO (k) Tryz.runUnderlying22 Tryz.sizeOf76 rfl rfl (rfl) (by omega) rfl) ?_
        refine w_ (p_loadO 0 Tryz.isAgg76 Tryz.sizeOf76 rfl rfl (by rw [Nat.zero_add]; exact map_get hq) rfl rfl rfl) ?_
        refine a_alloc Tryz.zeroValue76 rfl rfl fun g3 => ?_
        refine a_storeOw 0 Tryz.sizeOf76 rfl rfl rfl rfl rfl rfl rfl ?_
        refine aw_nil ?_
        refine ac_reg ?_
        refine w_ (p_move rfl rfl) ?_
        refine w_ (p_move rfl rfl) ?_
        refine w_ ((p_grun rfl rfl (hb) (p_fieldOw fa_76_0 rfl rfl))) ?_
        refine w_ ((p_grun rfl rfl (hb) (p_loadOw 2 Tryz.isAgg74 Tryz.sizeOf74 rfl rfl rfl rfl rfl))) ?_
        refine w_ ((p_grun rfl rfl (hb) (p_fieldOw fa_76_0 rfl rfl))) ?_
        refine w_ ((p_grun rfl rfl (hb) (p_loadOw 0 Tryz.isAgg74 Tryz.sizeOf74 rfl rfl rfl rfl rfl))) ?_
        refine w_ ((p_grun rfl rfl (hb) (p_call Tryz.func231 rfl rfl rfl rfl (d_curve_Same (hpk.1) (hqk.1) (hpk.2) (hqk.2)) rfl))) ?_
        refine w_ (p_pickF rfl (hb) rfl rfl) ?_
        refine w_ (p_assign rfl rfl) ?_
        refine aw_nil ?_
        refine ac_reg ?_
        refine w_ (p_add (r := ((k + 1 : Nat) : Int)) rfl rfl (i64_is (by omega) (by omega)) rfl) ?_
        refine w_ (p_move rfl rfl) ?_
        refine aw_slotEq (y := .one (.bool ((((l.take i).foldl waysF []).take (k + 1)).any (fun q => crvEq p.c q.c)))) 6 rfl (by rw [hany]) ?_
        refine aw_pick [3, 5, 6, 10, 11, 12, 16, 17, 18] rfl ?_
        refine aw_drop 0 rfl ?_
        refine aw_nil ?_
        refine ⟨_, ?_, k + 1, by omega, rfl, rfl, rfl⟩
        omega
    · have hany : ((((l.take i).foldl waysF []).take k).any (fun q => crvEq p.c q.c)) = ((l.take i).foldl waysF []).any (fun q => crvEq p.c q.c) := by rw [List.take_of_length_le (by omega)]
      by_cases hbb : ((l.take i).foldl waysF []).any (fun q => crvEq p.c q.c) = true
      · have hst : ((l.take i).foldl waysF []) = ((l.take (i + 1)).foldl waysF []) := by rw [hws]; exact (if_pos hbb).symm
        have hml : nw = ((l.take (i + 1)).foldl waysF []).length := by rw [← hst]; exact hp1
        refine ac_seq ?_
        refine ac_reg ?_
        refine w_ (p_cmp rfl rfl rfl rfl) ?_
        refine aw_nil ?_
        refine ac_seq ?_
        refine ac_f rfl (decide_eq_false (by omega)) ?_
        refine ac_exit ?_
        repeat refine seqQ_exit ?_
        refine blkQ_here ?_
        refine ac_seq ?_
        refine ac_reg ?_
        refine w_ (p_move rfl rfl) ?_
        refine w_ (p_not rfl rfl) ?_
        refine aw_nil ?_
        refine ac_f rfl (by rw [hany, hbb]; rfl) ?_
        refine ac_skip ?_
        refine ac_reg ?_
        refine w_ (p_add (r := ((i + 1 : Nat) : Int)) rfl rfl (i64_is (by omega) (by omega)) rfl) ?_
        refine w_ (p_move rfl rfl) ?_
        refine aw_rowEq (ls' := ((l.take (i + 1)).foldl waysF []).map ofPt) 0 rfl (by rw [hst]) ?_
        refine aw_pick [3, 10, 11, 12] rfl ?_
        refine aw_drop 1 rfl ?_
        refine aw_nil ?_
        refine ⟨_, ?_, i + 1, _, _, by omega, hml, rfl, rfl, rfl⟩
        omega
      · have hst0 : ((l.take i).foldl waysF []) ++ [p] = ((l.take (i + 1)).foldl waysF []) := by rw [hws]; exact (if_neg hbb).symm
        have hst : (((l.take i).foldl waysF []) ++ [p]) = ((l.take (i + 1)).foldl waysF []) := hst0
        have hml : nw + 1 = ((l.take (i + 1)).foldl waysF []).length := by rw [← hst, List.length_append, ← hp1]; rfl
        refine ac_seq ?_
        refine ac_reg ?_
        refine w_ (p_cmp rfl rfl rfl rfl) ?_
        refine aw_nil ?_
        refine ac_seq ?_
        refine ac_f rfl (decide_eq_false (by omega)) ?_
        refine ac_exit ?_
        repeat refine seqQ_exit ?_
        refine blkQ_here ?_
        refine ac_seq ?_
        refine ac_reg ?_
        refine w_ (p_move rfl rfl) ?_
        refine w_ (p_not rfl rfl) ?_
        refine aw_nil ?_
        refine ac_t rfl (by rw [hany, show ((l.take i).foldl waysF []).any (fun q => crvEq p.c q.c) = false from by simpa using hbb]; rfl) ?_
        refine ac_reg ?_
        refine w_ (p_move rfl rfl) ?_
        refine w_ (p_loadOw 1 Tryz.isAgg76 Tryz.sizeOf76 rfl rfl rfl rfl rfl) ?_
        refine w_ (p_lit Tryz.runUnderlying22 Tryz.sizeOf76 Tryz.zeroValue76 rfl rfl rfl rfl rfl rfl rfl rfl rfl rfl) ?_
        refine a_append (ls2 := (((l.take i).foldl waysF []) ++ [p]).map ofPt) (m2 := nw + 1) 0 Tryz.runUnderlying22 Tryz.runUnderlying22 Tryz.typeInfo76 rfl rfl Tryz.sizeOf76 Tryz.zeroValue76 rfl rfl rfl rfl rfl rfl rfl (by rw [List.length_map]; omega) (one_w rfl) (one_f rfl) (by show _ + 1 < _; omega) (by rw [List.take_of_length_le (by rw [List.length_map]; omega), List.map_append]; rfl) (rfl) fun r4 => ?_
        refine w_ (p_assign rfl rfl) ?_
        refine aw_nil ?_
        refine ac_reg ?_
        refine w_ (p_add (r := ((i + 1 : Nat) : Int)) rfl rfl (i64_is (by omega) (by omega)) rfl) ?_
        refine w_ (p_move rfl rfl) ?_
        refine aw_rowEq (ls' := ((l.take (i + 1)).foldl waysF []).map ofPt) 0 rfl (by rw [hst]) ?_
        refine aw_pick [3, 10, 11, 12] rfl ?_
        refine aw_drop 1 rfl ?_
        refine aw_nil ?_
        refine ⟨_, ?_, i + 1, _, _, by omega, hml, rfl, rfl, rfl⟩
        omega
  · have hi : l.take i = l := List.take_of_length_le (by omega)
    refine ac_seq ?_
    refine ac_reg ?_
    refine w_ (p_cmp rfl rfl rfl rfl) ?_
    refine aw_nil ?_
    refine ac_seq ?_
    refine ac_f rfl (decide_eq_false (by omega)) ?_
    refine ac_exit ?_
    repeat refine seqQ_exit ?_
    refine blkQ_here ?_
    refine ac_seq ?_
    refine ac_reg ?_
    refine w_ (p_move rfl rfl) ?_
    refine w_ (p_assign rfl rfl) ?_
    refine aw_nil ?_
    have hl47 := hwl
    refine ac_pub 0 [2] rfl (allAre1 rfl) (by rw [List.length_map]; exact hp1) (by rw [List.length_map]; have := hl47; omega) rfl ?_
    refine ac_ret ?_
    exact retB_1 Tryz.results208 (rv_tmp rfl rfl) (by rw [hi]; rfl)

end Orr

namespace Orr
open Go Go.Proofs
theorem trim_qa (q : Rat) : Trim [-q.num, (q.den : Int)] := by
  unfold Trim
  simp [trim, q.den_nz]
theorem bd_qa {q : Rat} {s : Nat} (h : Qs s q) : Bd s [-q.num, (q.den : Int)] := by
  intro z hz
  simp only [List.mem_cons, List.not_mem_nil, or_false] at hz
  rcases hz with rfl | rfl
  · rw [isz_neg]; exact h.1
  · exact h.2

set_option maxRecDepth 20000 in
theorem d_alg_Of {b1 b2 : Bool} {l1 l2 : List Nat} {n d : Int} (h1 : IsInt (.bool b1) (u32r l1) n) (h2 : IsInt (.bool b2) (u32r l2) d) (hn : isz n ≤ 4294967295) (hd : isz d ≤ 4294967295) (hq : Qs 4294967295 (ratOf n d)) : Does Tryz.prog 115 [.agg [.bool b1, u32r l1, .bool b2, u32r l2]] (.agg [pl ([-((ratOf n d)).num, (((ratOf n d)).den : Int)]), sg ((((ratOf n d))).num), mg ((((ratOf n d))).num), sg (((((ratOf n d))).den : Int)), mg (((((ratOf n d))).den : Int)), sg ((((ratOf n d))).num), mg ((((ratOf n d))).num), sg (((((ratOf n d))).den : Int)), mg (((((ratOf n d))).den : Int))]) := by
  refine does_ (n := 15) Tryz.func115 rfl Tryz.ntmps115 rfl ?_
  refine ac_seq ?_
  refine ac_reg ?_
  refine a_box rfl rfl rfl fun g1 => ?_
  refine a_alloc Tryz.zeroValue59 rfl rfl fun g2 => ?_
  refine aw_nil ?_
  refine ac_seq ?_
  refine ac_reg ?_
  refine w_ (p_loadOw 1 Tryz.isAgg57 Tryz.sizeOf57 rfl rfl rfl rfl rfl) ?_
  refine w_ (p_call Tryz.func193 rfl rfl rfl rfl (d_ratio_Max h1 h2 hn hd) rfl) ?_
  refine a_storeOw 1 Tryz.sizeOf57 rfl rfl rfl rfl rfl rfl rfl ?_
  refine aw_nil ?_
  refine ac_seq ?_
  refine ac_draw mixed_ 9 [5, 6, 7, 8, 9, 10, 11, 12, 13] [[], [0], [1], [], [3], [2, 4], [], [], [7]] [.one (.ow g1 0), .agg [sg (((ratOf n d)).num), mg (((ratOf n d)).num)], .agg [sg (-(((ratOf n d)).num)), mg (-(((ratOf n d)).num))], .one (.ow g1 2), .agg [sg ((((ratOf n d)).den : Int)), mg ((((ratOf n d)).den : Int))], .one (.row [[sg (-(((ratOf n d)).num)), mg (-(((ratOf n d)).num))], [sg ((((ratOf n d)).den : Int)), mg ((((ratOf n d)).den : Int))]]), .agg [sg (((ratOf n d)).num), mg (((ratOf n d)).num), sg ((((ratOf n d)).den : Int)), mg ((((ratOf n d)).den : Int))], .agg [sg (((ratOf n d)).num), mg (((ratOf n d)).num), sg ((((ratOf n d)).den : Int)), mg ((((ratOf n d)).den : Int))], .agg [sg (((ratOf n d)).num), mg (((ratOf n d)).num), sg ((((ratOf n d)).den : Int)), mg ((((ratOf n d)).den : Int))]] rfl rfl rfl ⟨p_fieldOw fa_57_0 rfl rfl, p_loadOw 1 Tryz.isAgg55 Tryz.sizeOf55 rfl rfl rfl rfl rfl, p_call Tryz.func194 rfl rfl rfl rfl (d_whole_Neg (isInt_n _) (hq.1)) rfl, p_fieldOw fa_57_1 rfl rfl, p_loadOw 1 Tryz.isAgg55 Tryz.sizeOf55 rfl rfl rfl rfl rfl, p_lit Tryz.runUnderlying52 Tryz.sizeOf55 Tryz.zeroValue55 rfl rfl rfl rfl rfl rfl rfl rfl rfl rfl, p_loadOw 1 Tryz.isAgg57 Tryz.sizeOf57 rfl rfl rfl rfl rfl, p_loadOw 1 Tryz.isAgg57 Tryz.sizeOf57 rfl rfl rfl rfl rfl, p_call Tryz.func193 rfl rfl rfl rfl (d_ratio_Max1 hq) rfl, trivial⟩ rfl ?_
  refine w_ (p_build (bd_59) rfl rfl rfl rfl) ?_
  refine a_storeOw 0 Tryz.sizeOf59 rfl rfl rfl rfl rfl rfl rfl ?_
  refine aw_nil ?_
  refine ac_ret ?_
  exact retB_1 Tryz.results115 (rv_cell 0 Tryz.isAgg59 Tryz.sizeOf59 rfl rfl rfl rfl rfl) (rfl)

set_option maxRecDepth 20000 in
theorem d_alg_normQ {q : Rat} (hq : Qs 4294967295 q) : Does Tryz.prog 239 [.agg [pl ([-q.num, (q.den : Int)]), sg q.num, mg q.num, sg ((q.den : Int)), mg ((q.den : Int)), sg q.num, mg q.num, sg ((q.den : Int)), mg ((q.den : Int))]] (.agg [pl ([-q.num, (q.den : Int)]), sg q.num, mg q.num, sg ((q.den : Int)), mg ((q.den : Int)), sg q.num, mg q.num, sg ((q.den : Int)), mg ((q.den : Int))]) := by
  refine does_ (n := 13) Tryz.func239 rfl Tryz.ntmps239 rfl ?_
  refine ac_seq ?_
  refine ac_reg ?_
  refine w_ (p_boxS rfl rfl rfl rfl) ?_
  refine a_alloc Tryz.zeroValue59 rfl rfl fun g1 => ?_
  refine aw_nil ?_
  refine ac_seq ?_
  refine ac_draw mixed_ 8 [3, 4, 5, 6, 7, 8, 9, 10] [[], [0], [1], [], [3], [4], [], [6]] [.one (.sh [pl ([-q.num, (q.den : Int)]), sg q.num, mg q.num, sg ((q.den : Int)), mg ((q.den : Int)), sg q.num, mg q.num, sg ((q.den : Int)), mg ((q.den : Int))]), .one (pl ([-q.num, (q.den : Int)])), .one (pl ([-q.num, (q.den : Int)])), .one (.sh [sg q.num, mg q.num, sg ((q.den : Int)), mg ((q.den : Int)), sg q.num, mg q.num, sg ((q.den : Int)), mg ((q.den : Int))]), .agg [sg q.num, mg q.num, sg ((q.den : Int)), mg ((q.den : Int))], .agg [sg q.num, mg q.num, sg ((q.den : Int)), mg ((q.den : Int))], .one (.sh [sg q.num, mg q.num, sg ((q.den : Int)), mg ((q.den : Int))]), .agg [sg q.num, mg q.num, sg ((q.den : Int)), mg ((q.den : Int))]] rfl rfl rfl ⟨p_fieldSh fa_59_0 rfl rfl rfl, p_loadSh Tryz.isAgg52 Tryz.sizeOf52 rfl rfl rfl rfl, p_call Tryz.func189 rfl rfl rfl rfl (d_poly_NormT (trim_qa q) (show 2 < 274877906944 by decide) (bd_qa hq)) rfl, p_fieldSh fa_59_1 rfl rfl rfl, p_loadSh Tryz.isAgg57 Tryz.sizeOf57 rfl rfl rfl rfl, p_call Tryz.func193 rfl rfl rfl rfl (d_ratio_Max1 (hq)) rfl, p_fieldSh fa_59_2 rfl rfl rfl, p_loadSh Tryz.isAgg57 Tryz.sizeOf57 rfl rfl rfl rfl, trivial⟩ rfl ?_
  refine w_ (p_call Tryz.func193 rfl rfl rfl rfl (d_ratio_Max1 (hq)) rfl) ?_
  refine w_ (p_build (bd_59) rfl rfl rfl rfl) ?_
  refine a_storeOw 0 Tryz.sizeOf59 rfl rfl rfl rfl rfl rfl rfl ?_
  refine aw_nil ?_
  refine ac_ret ?_
  exact retB_1 Tryz.results239 (rv_cell 0 Tryz.isAgg59 Tryz.sizeOf59 rfl rfl rfl rfl rfl) (rfl)

theorem d_alg_freshQ {q : Rat} (hq : Qs 4294967295 q) : Does Tryz.prog 315 [.agg [pl ([-q.num, (q.den : Int)]), sg q.num, mg q.num, sg ((q.den : Int)), mg ((q.den : Int)), sg q.num, mg q.num, sg ((q.den : Int)), mg ((q.den : Int))]] (.agg [pl ([-q.num, (q.den : Int)]), sg q.num, mg q.num, sg ((q.den : Int)), mg ((q.den : Int)), sg q.num, mg q.num, sg ((q.den : Int)), mg ((q.den : Int))]) := by
  refine does_ (n := 5) Tryz.func315 rfl Tryz.ntmps315 rfl ?_
  refine ac_seq ?_
  refine ac_reg ?_
  refine w_ (p_boxS rfl rfl rfl rfl) ?_
  refine a_alloc Tryz.zeroValue59 rfl rfl fun g1 => ?_
  refine aw_nil ?_
  refine ac_seq ?_
  refine ac_reg ?_
  refine w_ (p_loadSh Tryz.isAgg59 Tryz.sizeOf59 rfl rfl rfl rfl) ?_
  refine w_ (p_call Tryz.func239 rfl rfl rfl rfl (d_alg_normQ (hq)) rfl) ?_
  refine a_storeOw 0 Tryz.sizeOf59 rfl rfl rfl rfl rfl rfl rfl ?_
  refine aw_nil ?_
  refine ac_ret ?_
  exact retB_1 Tryz.results315 (rv_cell 0 Tryz.isAgg59 Tryz.sizeOf59 rfl rfl rfl rfl rfl) (rfl)

theorem d_alg_pointQ {q : Rat} (hq : Qs 2147483647 q) : Does Tryz.prog 240 [.agg [pl ([-q.num, (q.den : Int)]), sg q.num, mg q.num, sg ((q.den : Int)), mg ((q.den : Int)), sg q.num, mg q.num, sg ((q.den : Int)), mg ((q.den : Int))]] (.one (.bool true)) := by
  refine does_ (n := 9) Tryz.func240 rfl Tryz.ntmps240 rfl ?_
  refine ac_seq ?_
  refine ac_reg ?_
  refine w_ (p_boxS rfl rfl rfl rfl) ?_
  refine w_ (p_assign rfl rfl) ?_
  refine aw_nil ?_
  refine ac_seq ?_
  refine ac_reg ?_
  refine w_ (p_fieldSh fa_59_1 rfl rfl rfl) ?_
  refine w_ (p_loadSh Tryz.isAgg57 Tryz.sizeOf57 rfl rfl rfl rfl) ?_
  refine w_ (p_fieldSh fa_59_2 rfl rfl rfl) ?_
  refine w_ (p_loadSh Tryz.isAgg57 Tryz.sizeOf57 rfl rfl rfl rfl) ?_
  refine w_ (p_call Tryz.func269 rfl rfl rfl rfl (d_ratio_Cmp (hq) (hq)) rfl) ?_
  refine w_ (p_cmp rfl rfl rfl rfl) ?_
  refine w_ (p_assign rfl rfl) ?_
  refine aw_nil ?_
  refine ac_ret ?_
  exact retB_1 Tryz.results240 (rv_tmp rfl rfl) (by rw [cmpQ_self]; rfl)

theorem d_alg_SignQ {p : List Int} {q : Rat} (tp : Trim p) (hl : p.length ≤ 64) (hp : Bd 16780000 p) (hq : Qb q) : Does Tryz.prog 168 [.one (pl p), .agg [pl ([-q.num, (q.den : Int)]), sg q.num, mg q.num, sg ((q.den : Int)), mg ((q.den : Int)), sg q.num, mg q.num, sg ((q.den : Int)), mg ((q.den : Int))]] (.one (.int .i64 (psign p q))) := by
  refine does_ (n := 66) Tryz.func168 rfl Tryz.ntmps168 rfl ?_
  have hmm : p.length * (16777216 + 1) ≤ 64 * (16777216 + 1) := Nat.mul_le_mul_right _ hl
  rcases Nat.eq_zero_or_pos p.length with h0 | h0
  · skip
    refine ac_seq ?_
    refine ac_reg ?_
    refine a_box rfl rfl rfl fun g1 => ?_
    refine w_ (p_assign rfl rfl) ?_
    refine aw_nil ?_
    refine ac_seq ?_
    refine ac_draw mixed_ 3 [8, 9, 10] [[], [0], []] [.one (pl p), .one (pl p), .agg [pl ([-q.num, (q.den : Int)]), sg q.num, mg q.num, sg ((q.den : Int)), mg ((q.den : Int)), sg q.num, mg q.num, sg ((q.den : Int)), mg ((q.den : Int))]] rfl rfl rfl ⟨p_move rfl rfl, p_call Tryz.func189 rfl rfl rfl rfl (d_poly_NormT (tp) (by omega) (bd_mono hp (by omega))) rfl, p_loadOw 0 Tryz.isAgg59 Tryz.sizeOf59 rfl rfl rfl rfl rfl, trivial⟩ rfl ?_
    refine w_ (p_call Tryz.func239 rfl rfl rfl rfl (d_alg_normQ (hq.mono (by omega))) rfl) ?_
    refine w_ (p_assign rfl rfl) ?_
    refine a_storeOw 0 Tryz.sizeOf59 rfl rfl rfl rfl rfl rfl rfl ?_
    refine aw_nil ?_
    refine ac_seq ?_
    refine ac_seq ?_
    refine ac_reg ?_
    refine w_ (p_move rfl rfl) ?_
    refine w_ (p_len (m := p.length) Tryz.runUnderlying52 rfl (rlen_pl _) rfl) ?_
    refine w_ (p_cmp rfl rfl rfl rfl) ?_
    refine aw_nil ?_
    refine ac_t rfl (decide_eq_true (by omega)) ?_
    refine ac_seq ?_
    refine ac_reg ?_
    refine w_ (p_assign rfl rfl) ?_
    refine aw_nil ?_
    refine ac_ret ?_
    exact retB_1 Tryz.results168 (rv_tmp rfl rfl) (by rw [List.eq_nil_of_length_eq_zero h0]; rfl)
  · skip
    refine ac_seq ?_
    refine ac_reg ?_
    refine a_box rfl rfl rfl fun g2 => ?_
    refine w_ (p_assign rfl rfl) ?_
    refine aw_nil ?_
    refine ac_seq ?_
    refine ac_draw mixed_ 3 [8, 9, 10] [[], [0], []] [.one (pl p), .one (pl p), .agg [pl ([-q.num, (q.den : Int)]), sg q.num, mg q.num, sg ((q.den : Int)), mg ((q.den : Int)), sg q.num, mg q.num, sg ((q.den : Int)), mg ((q.den : Int))]] rfl rfl rfl ⟨p_move rfl rfl, p_call Tryz.func189 rfl rfl rfl rfl (d_poly_NormT (tp) (by omega) (bd_mono hp (by omega))) rfl, p_loadOw 0 Tryz.isAgg59 Tryz.sizeOf59 rfl rfl rfl rfl rfl, trivial⟩ rfl ?_
    refine w_ (p_call Tryz.func239 rfl rfl rfl rfl (d_alg_normQ (hq.mono (by omega))) rfl) ?_
    refine w_ (p_assign rfl rfl) ?_
    refine a_storeOw 0 Tryz.sizeOf59 rfl rfl rfl rfl rfl rfl rfl ?_
    refine aw_nil ?_
    refine ac_seq ?_
    refine ac_seq ?_
    refine ac_reg ?_
    refine w_ (p_move rfl rfl) ?_
    refine w_ (p_len (m := p.length) Tryz.runUnderlying52 rfl (rlen_pl _) rfl) ?_
    refine w_ (p_cmp rfl rfl rfl rfl) ?_
    refine aw_nil ?_
    refine ac_f rfl (decide_eq_false (by omega)) ?_
    refine ac_skip ?_
    refine ac_seq ?_
    refine ac_seq ?_
    refine ac_reg ?_
    refine w_ (p_loadOw 0 Tryz.isAgg59 Tryz.sizeOf59 rfl rfl rfl rfl rfl) ?_
    refine w_ (p_call Tryz.func240 rfl rfl rfl rfl (d_alg_pointQ (hq.mono (by omega))) rfl) ?_
    refine aw_nil ?_
    refine ac_t rfl (rfl) ?_
    refine ac_seq ?_
    refine ac_reg ?_
    refine w_ (p_move rfl rfl) ?_
    refine w_ (p_fieldOw fa_59_1 rfl rfl) ?_
    refine w_ (p_loadOw 0 Tryz.isAgg57 Tryz.sizeOf57 rfl rfl rfl rfl rfl) ?_
    refine w_ (p_call Tryz.func241 rfl rfl rfl rfl (d_poly_Sign (tp) (by omega) (hp) (hq) (by omega)) rfl) ?_
    refine w_ (p_assign rfl rfl) ?_
    refine aw_nil ?_
    refine ac_ret ?_
    exact retB_1 Tryz.results168 (rv_tmp rfl rfl) (rfl)

theorem d_germ_At1 {p : List Int} {q : Rat} (tp : Trim p) (hl : p.length ≤ 64) (hp : Bd 16780000 p) (hq : Qb q) : Does Tryz.prog 167 [.one (pl p), .one (.sh [pl ([-q.num, (q.den : Int)]), sg q.num, mg q.num, sg ((q.den : Int)), mg ((q.den : Int)), sg q.num, mg q.num, sg ((q.den : Int)), mg ((q.den : Int))])] (.one (.int .i64 (psign p q))) := by
  refine does_ (n := 7) Tryz.func167 rfl Tryz.ntmps167 rfl ?_
  refine ac_seq ?_
  refine ac_reg ?_
  refine w_ (p_assign rfl rfl) ?_
  refine aw_nil ?_
  refine ac_seq ?_
  refine ac_reg ?_
  refine w_ (p_move rfl rfl) ?_
  refine w_ (p_loadSh Tryz.isAgg59 Tryz.sizeOf59 rfl rfl rfl rfl) ?_
  refine w_ (p_call Tryz.func168 rfl rfl rfl rfl (d_alg_SignQ (tp) (hl) (hp) (hq)) rfl) ?_
  refine w_ (p_assign rfl rfl) ?_
  refine aw_nil ?_
  refine ac_ret ?_
  exact retB_1 Tryz.results167 (rv_tmp rfl rfl) (rfl)

theorem d_germ_first {p : List Int} {fid : Nat} {pre post : List LV} {fn : Func} {sgn : List Int → Int} (hp : Pb p) (hfn : Tryz.prog.funcs[fid]? = some fn) (hnm : (fn.name == "runtime.NumGoroutine") = false) (hbd : fn.body.isNone = false)
    (hf : ∀ p : List Int, Trim p → p.length ≤ 64 → Bd 16780000 p → Does Tryz.prog fid (pre.map .one ++ [.one (pl p)] ++ post.map .one) (.one (.int .i64 (sgn p)))) : Does Tryz.prog 166 [.one (pl p), .one (.fn fid pre post)] (.one (.int .i64 (gfirst sgn p.length p))) := by
  refine does_ (n := 19) Tryz.func166 rfl Tryz.ntmps166 rfl ?_
  refine ac_seq ?_
  refine ac_reg ?_
  refine w_ (p_assign rfl rfl) ?_
  refine aw_nil ?_
  refine ac_seq ?_
  refine ac_seq ?_
  refine ac_reg ?_
  refine w_ (p_move rfl rfl) ?_
  refine w_ (p_call Tryz.func189 rfl rfl rfl rfl (d_poly_NormT (hp.t) (Nat.lt_of_le_of_lt hp.l (by decide)) (bd_mono hp.b (by omega))) rfl) ?_
  refine w_ (p_assign rfl rfl) ?_
  refine aw_nil ?_
  refine ac_block ?_
  refine ac_pick [0, 1] rfl ?_
  refine ac_loop (fun m L B => ∃ p' k, Trim p' ∧ p'.length + k ≤ 64 ∧ Bd (16777216 + 7 * k) p' ∧ gfirst sgn p'.length p' = gfirst sgn p.length p ∧ m = p'.length ∧ L = [(0, .one (pl p')), (1, .one (.fn fid pre post))] ∧ B = []) (m := _) ⟨p, 0, hp.t, hp.l, hp.b, rfl, rfl, rfl, rfl⟩ ?_
  rintro m L B ⟨p', k, hp0, hp1, hp2, hp3, hm, rfl, rfl⟩
  by_cases h0 : 0 < p'.length
  · by_cases hs : sgn p' = 0
    · skip
      refine ac_seq ?_
      refine ac_seq ?_
      refine ac_reg ?_
      refine w_ (p_move rfl rfl) ?_
      refine w_ (p_len (m := p'.length) Tryz.runUnderlying52 rfl (rlen_pl _) rfl) ?_
      refine w_ (p_cmp rfl rfl rfl rfl) ?_
      refine aw_nil ?_
      refine ac_t rfl (decide_eq_true (by omega)) ?_
      refine ac_skip ?_
      refine ac_seq ?_
      refine ac_block ?_
      refine ac_seq ?_
      refine ac_reg ?_
      refine w_ (p_move rfl rfl) ?_
      refine w_ (p_move rfl rfl) ?_
      refine w_ (p_callFn rfl hfn hnm hbd rfl rfl (hf p' hp0 (by omega) (bd_mono hp2 (by omega))) rfl) ?_
      refine w_ (p_assign rfl rfl) ?_
      refine aw_nil ?_
      refine ac_seq ?_
      refine ac_reg ?_
      refine w_ (p_move rfl rfl) ?_
      refine w_ (p_cmp rfl rfl rfl rfl) ?_
      refine aw_nil ?_
      refine ac_f rfl (decide_eq_false (fun h => h hs)) ?_
      refine ac_skip ?_
      refine ac_reg ?_
      refine w_ (p_move rfl rfl) ?_
      refine w_ (p_call Tryz.func238 rfl rfl rfl rfl (d_poly_Derive (by omega) (bd_mono hp2 (by omega))) rfl) ?_
      refine w_ (p_assign rfl rfl) ?_
      refine aw_pick [0, 1] rfl ?_
      refine aw_nil ?_
      refine ⟨_, ?_, pder p', k + 1, each_trim _ _, by have := len_pder p'; omega, bd_mono (bd_pder (t := 7) hp2 (by show p'.length ≤ 128; omega)) (by omega), by rw [← hp3, gfirst_next sgn h0 hs], rfl, rfl, rfl⟩
      have := len_pder p'; omega
    · skip
      refine ac_seq ?_
      refine ac_seq ?_
      refine ac_reg ?_
      refine w_ (p_move rfl rfl) ?_
      refine w_ (p_len (m := p'.length) Tryz.runUnderlying52 rfl (rlen_pl _) rfl) ?_
      refine w_ (p_cmp rfl rfl rfl rfl) ?_
      refine aw_nil ?_
      refine ac_t rfl (decide_eq_true (by omega)) ?_
      refine ac_skip ?_
      refine ac_seq ?_
      refine ac_block ?_
      refine ac_seq ?_
      refine ac_reg ?_
      refine w_ (p_move rfl rfl) ?_
      refine w_ (p_move rfl rfl) ?_
      refine w_ (p_callFn rfl hfn hnm hbd rfl rfl (hf p' hp0 (by omega) (bd_mono hp2 (by omega))) rfl) ?_
      refine w_ (p_assign rfl rfl) ?_
      refine aw_nil ?_
      refine ac_seq ?_
      refine ac_reg ?_
      refine w_ (p_move rfl rfl) ?_
      refine w_ (p_cmp rfl rfl rfl rfl) ?_
      refine aw_nil ?_
      refine ac_t rfl (decide_eq_true hs) ?_
      refine ac_seq ?_
      refine ac_reg ?_
      refine w_ (p_move rfl rfl) ?_
      refine w_ (p_assign rfl rfl) ?_
      refine aw_nil ?_
      refine ac_ret ?_
      exact retB_1 Tryz.results166 (rv_tmp rfl rfl) (by rw [← hp3, gfirst_here sgn h0 hs])
  · skip
    refine ac_seq ?_
    refine ac_seq ?_
    refine ac_reg ?_
    refine w_ (p_move rfl rfl) ?_
    refine w_ (p_len (m := p'.length) Tryz.runUnderlying52 rfl (rlen_pl _) rfl) ?_
    refine w_ (p_cmp rfl rfl rfl rfl) ?_
    refine aw_nil ?_
    refine ac_f rfl (decide_eq_false (by omega)) ?_
    refine ac_exit ?_
    repeat refine seqQ_exit ?_
    refine blkQ_here ?_
    refine ac_seq ?_
    refine ac_reg ?_
    refine w_ (p_assign rfl rfl) ?_
    refine aw_nil ?_
    refine ac_ret ?_
    exact retB_1 Tryz.results166 (rv_tmp rfl rfl) (by rw [← hp3, gfirst_zero sgn (by omega)])

theorem d_germ_AtQ {p : List Int} {q : Rat} (hp : Pb p) (hq : Qb q) : Does Tryz.prog 99 [.one (pl p), .agg [pl ([-q.num, (q.den : Int)]), sg q.num, mg q.num, sg ((q.den : Int)), mg ((q.den : Int)), sg q.num, mg q.num, sg ((q.den : Int)), mg ((q.den : Int))]] (.one (.int .i64 (germAt p q))) := by
  refine does_ (n := 8) Tryz.func99 rfl Tryz.ntmps99 rfl ?_
  refine ac_seq ?_
  refine ac_reg ?_
  refine w_ (p_boxS rfl rfl rfl rfl) ?_
  refine w_ (p_assign rfl rfl) ?_
  refine aw_nil ?_
  refine ac_seq ?_
  refine ac_reg ?_
  refine w_ (p_move rfl rfl) ?_
  refine w_ (p_makeFunc rfl rfl rfl rfl rfl rfl rfl) ?_
  refine w_ (p_call Tryz.func166 rfl rfl rfl rfl (d_germ_first (sgn := fun p => psign p q) hp Tryz.func167 rfl rfl (fun p h1 h2 h3 => d_germ_At1 h1 h2 h3 hq)) rfl) ?_
  refine w_ (p_assign rfl rfl) ?_
  refine aw_nil ?_
  refine ac_ret ?_
  exact retB_1 Tryz.results99 (rv_tmp rfl rfl) (rfl)

theorem d_pred_norm {k : Crv} (hn : Nml k) (hk : Cs 4294967294 1073741824 k) : Does Tryz.prog 170 [.agg [pl k.x, pl k.y, sg k.d, mg k.d]] (.agg [pl k.x, pl k.y, sg k.d, mg k.d]) := by
  refine does_ (n := 22) Tryz.func170 rfl Tryz.ntmps170 rfl ?_
  have h0 : ¬ (k.d = 0) := by have := hn.2.2.1; omega
  · skip
    refine ac_seq ?_
    refine ac_reg ?_
    refine w_ (p_boxS rfl rfl rfl rfl) ?_
    refine a_alloc Tryz.zeroValue74 rfl rfl fun g1 => ?_
    refine aw_nil ?_
    refine ac_seq ?_
    refine ac_reg ?_
    refine w_ (p_fieldSh fa_74_2 rfl rfl rfl) ?_
    refine w_ (p_loadSh Tryz.isAgg55 Tryz.sizeOf55 rfl rfl rfl rfl) ?_
    refine a_alloc Tryz.zeroValue55 rfl rfl fun g2 => ?_
    refine a_storeOw 0 Tryz.sizeOf55 rfl rfl rfl rfl rfl rfl rfl ?_
    refine aw_nil ?_
    refine ac_seq ?_
    refine ac_seq ?_
    refine ac_reg ?_
    refine w_ (p_loadOw 0 Tryz.isAgg55 Tryz.sizeOf55 rfl rfl rfl rfl rfl) ?_
    refine w_ (p_call Tryz.func251 rfl rfl rfl rfl (d_whole_Norm (isInt_n _) (Nat.le_trans hk.d (by omega))) rfl) ?_
    refine w_ (p_call Tryz.func252 rfl rfl rfl rfl ((d_ZeroN _) ) rfl) ?_
    refine aw_nil ?_
    refine ac_f rfl (decide_eq_false h0) ?_
    refine ac_skip ?_
    refine ac_seq ?_
    refine ac_reg ?_
    refine w_ (p_fieldSh fa_74_0 rfl rfl rfl) ?_
    refine w_ (p_loadSh Tryz.isAgg52 Tryz.sizeOf52 rfl rfl rfl rfl) ?_
    refine w_ (p_fieldSh fa_74_1 rfl rfl rfl) ?_
    refine w_ (p_loadSh Tryz.isAgg52 Tryz.sizeOf52 rfl rfl rfl rfl) ?_
    refine w_ (p_loadOw 0 Tryz.isAgg55 Tryz.sizeOf55 rfl rfl rfl rfl rfl) ?_
    refine w_ (p_call Tryz.func253 rfl rfl rfl rfl (d_curve_Make (isInts_n k.x) (isInts_n k.y) (isInt_n k.d) hk h0) rfl) ?_
    refine w_ (p_move rfl rfl) ?_
    refine w_ (p_extract rfl rfl rfl) ?_
    refine w_ (p_extract rfl rfl rfl) ?_
    refine a_alloc Tryz.zeroValue74 rfl rfl fun g3 => ?_
    refine a_storeOw 0 Tryz.sizeOf74 rfl rfl rfl rfl rfl rfl rfl ?_
    refine w_ (p_assign rfl rfl) ?_
    refine aw_nil ?_
    refine ac_seq ?_
    refine ac_reg ?_
    refine w_ (p_loadOw 0 Tryz.isAgg74 Tryz.sizeOf74 rfl rfl rfl rfl rfl) ?_
    refine a_storeOw 2 Tryz.sizeOf74 rfl rfl rfl rfl rfl rfl rfl ?_
    refine aw_nil ?_
    refine ac_ret ?_
    exact retB_1 Tryz.results170 (rv_cell 2 Tryz.isAgg74 Tryz.sizeOf74 rfl rfl rfl rfl rfl) (by rw [show Crv.mk k.x k.y k.d = k from rfl, Crv.norm_of hn])

set_option maxRecDepth 20000 in
theorem d_pred_Right {a b : Crv} (ha : Nml a) (hb : Nml b) (ca : Cb a) (cb : Cb b) : Does Tryz.prog 159 [.agg [pl a.x, pl a.y, sg a.d, mg a.d], .agg [pl b.x, pl b.y, sg b.d, mg b.d]] (.one (pl (pright a b))) := by
  refine does_ (n := 20) Tryz.func159 rfl Tryz.ntmps159 rfl ?_
  refine ac_seq ?_
  refine ac_reg ?_
  refine a_box rfl rfl rfl fun g1 => ?_
  refine a_box rfl rfl rfl fun g2 => ?_
  refine w_ (p_assign rfl rfl) ?_
  refine aw_nil ?_
  refine ac_seq ?_
  refine ac_draw mixed_ 3 [5, 6, 7] [[], [0], []] [.agg [pl a.x, pl a.y, sg a.d, mg a.d], .agg [pl a.x, pl a.y, sg a.d, mg a.d], .agg [pl b.x, pl b.y, sg b.d, mg b.d]] rfl rfl rfl ⟨p_loadOw 1 Tryz.isAgg74 Tryz.sizeOf74 rfl rfl rfl rfl rfl, p_call Tryz.func170 rfl rfl rfl rfl (d_pred_norm (ha) (ca.mono (by omega) (by omega))) rfl, p_loadOw 0 Tryz.isAgg74 Tryz.sizeOf74 rfl rfl rfl rfl rfl, trivial⟩ rfl ?_
  refine w_ (p_call Tryz.func170 rfl rfl rfl rfl (d_pred_norm (hb) (cb.mono (by omega) (by omega))) rfl) ?_
  refine a_storeOw 1 Tryz.sizeOf74 rfl rfl rfl rfl rfl rfl rfl ?_
  refine a_storeOw 0 Tryz.sizeOf74 rfl rfl rfl rfl rfl rfl rfl ?_
  refine aw_nil ?_
  refine ac_seq ?_
  refine ac_draw mixed_ 9 [9, 10, 11, 12, 13, 14, 15, 16, 17] [[], [0], [], [2], [1, 3], [], [5], [], [7]] [.one (.ow g2 0), .one (pl b.x), .one (.ow g1 2), .agg [sg a.d, mg a.d], .one (pl (pscale b.x a.d)), .one (.ow g1 0), .one (pl a.x), .one (.ow g2 2), .agg [sg b.d, mg b.d]] rfl rfl rfl ⟨p_fieldOw fa_74_0 rfl rfl, p_loadOw 0 Tryz.isAgg52 Tryz.sizeOf52 rfl rfl rfl rfl rfl, p_fieldOw fa_74_2 rfl rfl, p_loadOw 1 Tryz.isAgg55 Tryz.sizeOf55 rfl rfl rfl rfl rfl, p_call Tryz.func172 rfl rfl rfl rfl (d_poly_Scale (Nat.lt_of_le_of_lt cb.lx (by decide)) (bd_mono cb.x (by omega)) (Nat.le_trans ca.d (by omega))) rfl, p_fieldOw fa_74_0 rfl rfl, p_loadOw 1 Tryz.isAgg52 Tryz.sizeOf52 rfl rfl rfl rfl rfl, p_fieldOw fa_74_2 rfl rfl, p_loadOw 0 Tryz.isAgg55 Tryz.sizeOf55 rfl rfl rfl rfl rfl, trivial⟩ rfl ?_
  refine w_ (p_call Tryz.func172 rfl rfl rfl rfl (d_poly_Scale (Nat.lt_of_le_of_lt ca.lx (by decide)) (bd_mono ca.x (by omega)) (Nat.le_trans cb.d (by omega))) rfl) ?_
  refine w_ (p_call Tryz.func171 rfl rfl rfl rfl (d_poly_Sub (Nat.lt_of_le_of_lt (Nat.le_trans (len_pscale _ _) cb.lx) (by decide)) (Nat.lt_of_le_of_lt (Nat.le_trans (len_pscale _ _) ca.lx) (by decide)) (bd_mono (bd_pscale cb.x ca.d) (by decide)) (bd_mono (bd_pscale ca.x cb.d) (by decide))) rfl) ?_
  refine w_ (p_assign rfl rfl) ?_
  refine aw_nil ?_
  refine ac_ret ?_
  exact retB_1 Tryz.results159 (rv_tmp rfl rfl) (rfl)

set_option maxRecDepth 20000 in
theorem d_pred_Above {a b : Crv} (ha : Nml a) (hb : Nml b) (ca : Cb a) (cb : Cb b) : Does Tryz.prog 160 [.agg [pl a.x, pl a.y, sg a.d, mg a.d], .agg [pl b.x, pl b.y, sg b.d, mg b.d]] (.one (pl (pabove a b))) := by
  refine does_ (n := 20) Tryz.func160 rfl Tryz.ntmps160 rfl ?_
  refine ac_seq ?_
  refine ac_reg ?_
  refine a_box rfl rfl rfl fun g1 => ?_
  refine a_box rfl rfl rfl fun g2 => ?_
  refine w_ (p_assign rfl rfl) ?_
  refine aw_nil ?_
  refine ac_seq ?_
  refine ac_draw mixed_ 3 [5, 6, 7] [[], [0], []] [.agg [pl a.x, pl a.y, sg a.d, mg a.d], .agg [pl a.x, pl a.y, sg a.d, mg a.d], .agg [pl b.x, pl b.y, sg b.d, mg b.d]] rfl rfl rfl ⟨p_loadOw 1 Tryz.isAgg74 Tryz.sizeOf74 rfl rfl rfl rfl rfl, p_call Tryz.func170 rfl rfl rfl rfl (d_pred_norm (ha) (ca.mono (by omega) (by omega))) rfl, p_loadOw 0 Tryz.isAgg74 Tryz.sizeOf74 rfl rfl rfl rfl rfl, trivial⟩ rfl ?_
  refine w_ (p_call Tryz.func170 rfl rfl rfl rfl (d_pred_norm (hb) (cb.mono (by omega) (by omega))) rfl) ?_
  refine a_storeOw 1 Tryz.sizeOf74 rfl rfl rfl rfl rfl rfl rfl ?_
  refine a_storeOw 0 Tryz.sizeOf74 rfl rfl rfl rfl rfl rfl rfl ?_
  refine aw_nil ?_
  refine ac_seq ?_
  refine ac_draw mixed_ 9 [9, 10, 11, 12, 13, 14, 15, 16, 17] [[], [0], [], [2], [1, 3], [], [5], [], [7]] [.one (.ow g2 1), .one (pl b.y), .one (.ow g1 2), .agg [sg a.d, mg a.d], .one (pl (pscale b.y a.d)), .one (.ow g1 1), .one (pl a.y), .one (.ow g2 2), .agg [sg b.d, mg b.d]] rfl rfl rfl ⟨p_fieldOw fa_74_1 rfl rfl, p_loadOw 0 Tryz.isAgg52 Tryz.sizeOf52 rfl rfl rfl rfl rfl, p_fieldOw fa_74_2 rfl rfl, p_loadOw 1 Tryz.isAgg55 Tryz.sizeOf55 rfl rfl rfl rfl rfl, p_call Tryz.func172 rfl rfl rfl rfl (d_poly_Scale (Nat.lt_of_le_of_lt cb.ly (by decide)) (bd_mono cb.y (by omega)) (Nat.le_trans ca.d (by omega))) rfl, p_fieldOw fa_74_1 rfl rfl, p_loadOw 1 Tryz.isAgg52 Tryz.sizeOf52 rfl rfl rfl rfl rfl, p_fieldOw fa_74_2 rfl rfl, p_loadOw 0 Tryz.isAgg55 Tryz.sizeOf55 rfl rfl rfl rfl rfl, trivial⟩ rfl ?_
  refine w_ (p_call Tryz.func172 rfl rfl rfl rfl (d_poly_Scale (Nat.lt_of_le_of_lt ca.ly (by decide)) (bd_mono ca.y (by omega)) (Nat.le_trans cb.d (by omega))) rfl) ?_
  refine w_ (p_call Tryz.func171 rfl rfl rfl rfl (d_poly_Sub (Nat.lt_of_le_of_lt (Nat.le_trans (len_pscale _ _) cb.ly) (by decide)) (Nat.lt_of_le_of_lt (Nat.le_trans (len_pscale _ _) ca.ly) (by decide)) (bd_mono (bd_pscale cb.y ca.d) (by decide)) (bd_mono (bd_pscale ca.y cb.d) (by decide))) rfl) ?_
  refine w_ (p_assign rfl rfl) ?_
  refine aw_nil ?_
  refine ac_ret ?_
  exact retB_1 Tryz.results160 (rv_tmp rfl rfl) (rfl)

theorem d_pred_first {q : Rat} {a b : Pt} {ps : List (List Int)} (hps : ∀ p ∈ ps, Pb p) (hq : Qb q) (hl : ps.length < 1000) : Does Tryz.prog 158 [.agg [pl ([-q.num, (q.den : Int)]), sg q.num, mg q.num, sg ((q.den : Int)), mg ((q.den : Int)), sg q.num, mg q.num, sg ((q.den : Int)), mg ((q.den : Int))], .agg [pl a.c.x, pl a.c.y, sg a.c.d, mg a.c.d, .int .i64 a.id], .agg [pl b.c.x, pl b.c.y, sg b.c.d, mg b.c.d, .int .i64 b.id], .one (pls ps)] (.one (.bool (pfirst q a b ps))) := by
  refine does_ (n := 30) Tryz.func158 rfl Tryz.ntmps158 rfl ?_
  refine ac_seq ?_
  refine ac_reg ?_
  refine w_ (p_boxS rfl rfl rfl rfl) ?_
  refine w_ (p_boxS rfl rfl rfl rfl) ?_
  refine w_ (p_boxS rfl rfl rfl rfl) ?_
  refine w_ (p_assign rfl rfl) ?_
  refine aw_nil ?_
  refine ac_seq ?_
  refine ac_seq ?_
  refine ac_reg ?_
  refine w_ (p_move rfl rfl) ?_
  refine w_ (p_len (m := ps.length) Tryz.runUnderlying287 rfl (rlen_pls _) rfl) ?_
  refine w_ (p_move rfl rfl) ?_
  refine aw_nil ?_
  refine ac_block ?_
  refine ac_pick [4, 5, 6, 11, 12, 13] rfl ?_
  refine ac_loop (fun m L B => ∃ i, i ≤ ps.length ∧ (∀ j p, j < i → ps[j]? = some p → p.length = 0) ∧ m = ps.length - i ∧ L = [(4, .one (.sh [pl ([-q.num, (q.den : Int)]), sg q.num, mg q.num, sg ((q.den : Int)), mg ((q.den : Int)), sg q.num, mg q.num, sg ((q.den : Int)), mg ((q.den : Int))])), (5, .one (.sh [pl a.c.x, pl a.c.y, sg a.c.d, mg a.c.d, .int .i64 a.id])), (6, .one (.sh [pl b.c.x, pl b.c.y, sg b.c.d, mg b.c.d, .int .i64 b.id])), (11, .one (pls ps)), (12, .one (.int .i64 (((ps.length : Nat) : Int)))), (13, .one (.int .i64 ((i : Int))))] ∧ B = []) (m := _) ⟨0, Nat.zero_le _, fun j p hj => absurd hj (Nat.not_lt_zero _), rfl, rfl, rfl⟩ ?_
  rintro m L B ⟨i, hp0, hp1, hm, rfl, rfl⟩
  have hdr := pfirst_drop q a b hp1
  by_cases hlt : i < ps.length
  · obtain ⟨p, hp⟩ : ∃ p, ps[i]? = some p := ⟨_, List.getElem?_eq_getElem hlt⟩
    have hpb := hps p (List.mem_of_getElem? hp)
    by_cases h0 : 0 < p.length
    · skip
      refine ac_seq ?_
      refine ac_reg ?_
      refine w_ (p_cmp rfl rfl rfl rfl) ?_
      refine aw_nil ?_
      refine ac_seq ?_
      refine ac_t rfl (decide_eq_true (by omega)) ?_
      refine ac_skip ?_
      refine ac_seq ?_
      refine ac_block ?_
      refine ac_seq ?_
      refine ac_reg ?_
      refine w_ (p_index (i) Tryz.runUnderlying287 Tryz.sizeOf52 rfl rfl (rfl) (map_get hp) rfl rfl) ?_
      refine w_ (p_loadSh Tryz.isAgg52 Tryz.sizeOf52 rfl rfl rfl rfl) ?_
      refine w_ (p_assign rfl rfl) ?_
      refine aw_nil ?_
      refine ac_seq ?_
      refine ac_reg ?_
      refine w_ (p_move rfl rfl) ?_
      refine w_ (p_len (m := p.length) Tryz.runUnderlying52 rfl (rlen_pl _) rfl) ?_
      refine w_ (p_cmp rfl rfl rfl rfl) ?_
      refine aw_nil ?_
      refine ac_t rfl (decide_eq_true (by omega)) ?_
      refine ac_seq ?_
      refine ac_reg ?_
      refine w_ (p_move rfl rfl) ?_
      refine w_ (p_loadSh Tryz.isAgg59 Tryz.sizeOf59 rfl rfl rfl rfl) ?_
      refine w_ (p_call Tryz.func99 rfl rfl rfl rfl (d_germ_AtQ (hpb) (hq)) rfl) ?_
      refine w_ (p_cmp rfl rfl rfl rfl) ?_
      refine w_ (p_assign rfl rfl) ?_
      refine aw_nil ?_
      refine ac_ret ?_
      exact retB_1 Tryz.results158 (rv_tmp rfl rfl) (by rw [hdr, pfirst_at q a b hp h0])
    · skip
      refine ac_seq ?_
      refine ac_reg ?_
      refine w_ (p_cmp rfl rfl rfl rfl) ?_
      refine aw_nil ?_
      refine ac_seq ?_
      refine ac_t rfl (decide_eq_true (by omega)) ?_
      refine ac_skip ?_
      refine ac_seq ?_
      refine ac_block ?_
      refine ac_seq ?_
      refine ac_reg ?_
      refine w_ (p_index (i) Tryz.runUnderlying287 Tryz.sizeOf52 rfl rfl (rfl) (map_get hp) rfl rfl) ?_
      refine w_ (p_loadSh Tryz.isAgg52 Tryz.sizeOf52 rfl rfl rfl rfl) ?_
      refine w_ (p_assign rfl rfl) ?_
      refine aw_nil ?_
      refine ac_seq ?_
      refine ac_reg ?_
      refine w_ (p_move rfl rfl) ?_
      refine w_ (p_len (m := p.length) Tryz.runUnderlying52 rfl (rlen_pl _) rfl) ?_
      refine w_ (p_cmp rfl rfl rfl rfl) ?_
      refine aw_nil ?_
      refine ac_f rfl (decide_eq_false (by omega)) ?_
      refine ac_skip ?_
      refine ac_reg ?_
      refine w_ (p_add (r := ((i + 1 : Nat) : Int)) rfl rfl (i64_is (by omega) (by omega)) rfl) ?_
      refine w_ (p_move rfl rfl) ?_
      refine aw_pick [4, 5, 6, 11, 12, 13] rfl ?_
      refine aw_nil ?_
      refine ⟨_, ?_, i + 1, by omega, fun j r hj hr => by
          rcases Nat.lt_or_ge j i with h1 | h1
          · exact hp1 j r h1 hr
          · rw [show j = i from by omega, hp] at hr; injection hr with hr; rw [← hr]; omega, rfl, rfl, rfl⟩
      omega
  · skip
    refine ac_seq ?_
    refine ac_reg ?_
    refine w_ (p_cmp rfl rfl rfl rfl) ?_
    refine aw_nil ?_
    refine ac_seq ?_
    refine ac_f rfl (decide_eq_false (by omega)) ?_
    refine ac_exit ?_
    repeat refine seqQ_exit ?_
    refine blkQ_here ?_
    refine ac_seq ?_
    refine ac_reg ?_
    refine w_ (p_fieldSh fa_76_1 rfl rfl rfl) ?_
    refine w_ (p_loadSh Tryz.isAgg3 Tryz.sizeOf3 rfl rfl rfl rfl) ?_
    refine w_ (p_fieldSh fa_76_1 rfl rfl rfl) ?_
    refine w_ (p_loadSh Tryz.isAgg3 Tryz.sizeOf3 rfl rfl rfl rfl) ?_
    refine w_ (p_cmp rfl rfl rfl rfl) ?_
    refine w_ (p_assign rfl rfl) ?_
    refine aw_nil ?_
    refine ac_ret ?_
    exact retB_1 Tryz.results158 (rv_tmp rfl rfl) (by rw [hdr, List.drop_eq_nil_of_le (by omega)]; rfl)

set_option maxRecDepth 20000 in
theorem d_pred_Before {a b : Pt} {q : Rat} (ha : Nml a.c) (hb : Nml b.c) (ca : Cb a.c) (cb : Cb b.c) (hq : Qb q) : Does Tryz.prog 92 [.agg [pl a.c.x, pl a.c.y, sg a.c.d, mg a.c.d, .int .i64 a.id], .agg [pl b.c.x, pl b.c.y, sg b.c.d, mg b.c.d, .int .i64 b.id], .agg [pl ([-q.num, (q.den : Int)]), sg q.num, mg q.num, sg ((q.den : Int)), mg ((q.den : Int)), sg q.num, mg q.num, sg ((q.den : Int)), mg ((q.den : Int))]] (.one (.bool (before q a b))) := by
  refine does_ (n := 22) Tryz.func92 rfl Tryz.ntmps92 rfl ?_
  refine ac_seq ?_
  refine ac_reg ?_
  refine w_ (p_boxS rfl rfl rfl rfl) ?_
  refine w_ (p_boxS rfl rfl rfl rfl) ?_
  refine w_ (p_boxS rfl rfl rfl rfl) ?_
  refine w_ (p_assign rfl rfl) ?_
  refine aw_nil ?_
  refine ac_seq ?_
  refine ac_draw mixed_ 14 [7, 8, 9, 10, 11, 12, 13, 14, 15, 16, 17, 18, 19, 20] [[], [], [], [], [3], [], [5], [4, 6], [], [8], [], [10], [9, 11], [7, 12]] [.agg [pl ([-q.num, (q.den : Int)]), sg q.num, mg q.num, sg ((q.den : Int)), mg ((q.den : Int)), sg q.num, mg q.num, sg ((q.den : Int)), mg ((q.den : Int))], .agg [pl a.c.x, pl a.c.y, sg a.c.d, mg a.c.d, .int .i64 a.id], .agg [pl b.c.x, pl b.c.y, sg b.c.d, mg b.c.d, .int .i64 b.id], .one (.sh [pl a.c.x, pl a.c.y, sg a.c.d, mg a.c.d, .int .i64 a.id]), .agg [pl a.c.x, pl a.c.y, sg a.c.d, mg a.c.d], .one (.sh [pl b.c.x, pl b.c.y, sg b.c.d, mg b.c.d, .int .i64 b.id]), .agg [pl b.c.x, pl b.c.y, sg b.c.d, mg b.c.d], .one (pl (pright a.c b.c)), .one (.sh [pl a.c.x, pl a.c.y, sg a.c.d, mg a.c.d, .int .i64 a.id]), .agg [pl a.c.x, pl a.c.y, sg a.c.d, mg a.c.d], .one (.sh [pl b.c.x, pl b.c.y, sg b.c.d, mg b.c.d, .int .i64 b.id]), .agg [pl b.c.x, pl b.c.y, sg b.c.d, mg b.c.d], .one (pl (pabove a.c b.c)), .one (.row [[pl (pright a.c b.c)], [pl (pabove a.c b.c)]])] rfl rfl rfl ⟨p_loadSh Tryz.isAgg59 Tryz.sizeOf59 rfl rfl rfl rfl, p_loadSh Tryz.isAgg76 Tryz.sizeOf76 rfl rfl rfl rfl, p_loadSh Tryz.isAgg76 Tryz.sizeOf76 rfl rfl rfl rfl, p_fieldSh fa_76_0 rfl rfl rfl, p_loadSh Tryz.isAgg74 Tryz.sizeOf74 rfl rfl rfl rfl, p_fieldSh fa_76_0 rfl rfl rfl, p_loadSh Tryz.isAgg74 Tryz.sizeOf74 rfl rfl rfl rfl, p_call Tryz.func159 rfl rfl rfl rfl (d_pred_Right (ha) (hb) (ca) (cb)) rfl, p_fieldSh fa_76_0 rfl rfl rfl, p_loadSh Tryz.isAgg74 Tryz.sizeOf74 rfl rfl rfl rfl, p_fieldSh fa_76_0 rfl rfl rfl, p_loadSh Tryz.isAgg74 Tryz.sizeOf74 rfl rfl rfl rfl, p_call Tryz.func160 rfl rfl rfl rfl (d_pred_Above (ha) (hb) (ca) (cb)) rfl, p_lit Tryz.runUnderlying287 Tryz.sizeOf52 Tryz.zeroValue52 rfl rfl rfl rfl rfl rfl rfl rfl rfl rfl, trivial⟩ rfl ?_
  refine w_ (p_call Tryz.func158 rfl rfl rfl rfl (d_pred_first (ps := [(pright a.c b.c), (pabove a.c b.c)]) (by intro p hp; simp only [List.mem_cons, List.not_mem_nil, or_false] at hp; rcases hp with rfl | rfl; exact (pb_right ca cb).1; exact (pb_above ca cb).1) (hq) (show 2 < 1000 by decide)) rfl) ?_
  refine w_ (p_assign rfl rfl) ?_
  refine aw_nil ?_
  refine ac_ret ?_
  exact retB_1 Tryz.results92 (rv_tmp rfl rfl) (rfl)

end Orr

namespace Orr
open Go
variable {P : Program} {ops : Array Oper} {n : Nat} {rest : List Oper} {N : Sg → List OB → Prop} {L : Sg} {B : List OB} {d : Nat} {ty : TypeId} {pos : String} {after : Array Edge}

theorem run_indexArr {t E len sz i : Nat} {kd : IntKind} {p : Int} (hu : ∀ w, (underlying t).run P w = .ok (.array len E) w) (hs : ∀ w, (Go.sizeOf E).run P w = .ok sz w) (hp : p = (i : Int)) (hi : i < len)
    (b o : Nat) (w : World) : (Instr.indexAt t (.pointer (some ⟨b, o, none⟩)) (.int kd p)).run P w = .ok (.pointer (some ⟨b, o + i * sz, none⟩)) w := by
  subst hp
  have h0 : (0 : Int) ≤ (i : Int) ∧ (i : Int) < (len : Int) := ⟨by omega, by omega⟩
  simp [Instr.indexAt, asIntOf, hu, hs, Instr.sureAddr, h0, hi, Addr.add]
theorem p_indexArrOw (i : Nat) {t E len sz g o : Nat} {x y : Operand} {kd : IntKind} {p : Int} (hu : ∀ w, (underlying t).run P w = .ok (.array len E) w) (hs : ∀ w, (Go.sizeOf E).run P w = .ok sz w)
    (hx : evA L x = some (.one (.ow g o))) (hy : evA L y = some (.one (.int kd p))) (hp : p = (i : Int)) (hi : i < len) (hd : Nat.blt d n = true) :
    AP P ops n { dst := some d, op := .indexAddr t x y, type := ty, pos := pos, after := after, guard := none } d (.one (.ow g (o + i * sz))) L B :=
  p_val hd fun K Ob w0 w a Bs L' Fs h hL hB => by
    obtain ⟨v, hv, hr1⟩ := ev_of hL hx
    obtain rfl : v = .pointer (some ⟨g, o, none⟩) := hr1
    obtain ⟨u, hu', hr2⟩ := ev_of hL hy
    obtain rfl := rep_int hr2
    refine ⟨.pointer (some ⟨g, o + i * sz, none⟩), ?_, rfl⟩
    simp only [execOp, h.ev hv, h.ev hu']
    rw [Sem.run_bind, run_indexArr hu hs hp hi]
    rfl
theorem p_indexArrSh (i : Nat) {t E len sz : Nat} {l r : List LV} {x y : Operand} {kd : IntKind} {p : Int} (hu : ∀ w, (underlying t).run P w = .ok (.array len E) w) (hs : ∀ w, (Go.sizeOf E).run P w = .ok sz w)
    (hx : evA L x = some (.one (.sh l))) (hy : evA L y = some (.one (.int kd p))) (hp : p = (i : Int)) (hi : i < len) (hr : dropL (i * sz) l = some r) (hd : Nat.blt d n = true) :
    AP P ops n { dst := some d, op := .indexAddr t x y, type := ty, pos := pos, after := after, guard := none } d (.one (.sh r)) L B :=
  p_val hd fun K Ob w0 w a Bs L' Fs h hL hB => by
    obtain ⟨v, hv, hr1⟩ := ev_of hL hx
    obtain ⟨u, hu', hr2⟩ := ev_of hL hy
    obtain rfl := rep_int hr2
    obtain ⟨b, o, rfl, h2⟩ := sh_drop (rep_sh hr1) hr
    refine ⟨.pointer (some ⟨b, o + i * sz, none⟩), ?_, h2⟩
    simp only [execOp, h.ev hv, h.ev hu']
    rw [Sem.run_bind, run_indexArr hu hs hp hi]
    rfl
theorem index_run {t E len sz i : Nat} {kd : IntKind} {p : Int} (hu : ∀ w, (underlying t).run P w = .ok (.array len E) w) (hs : ∀ w, (Go.sizeOf E).run P w = .ok sz w) (ht : ∀ w, (isAgg E).run P w = .ok false w)
    (hp : p = (i : Int)) (hi : i < len) {vs : List Value} {v : Value} (hv : vs[i * sz]? = some v) (w : World) : (Instr.index t (.agg vs.toArray) (.int kd p)).run P w = .ok v w := by
  subst hp
  have h0 : (0 : Int) ≤ (i : Int) ∧ (i : Int) < (len : Int) := ⟨by omega, by omega⟩
  simp [Instr.index, asIntOf, hu, hs, h0, hi, Go.part, ht, hv]
/-- a place of an array value, of one cell -/
theorem p_indexV (i : Nat) {t E len sz : Nat} {x y : Operand} {kd : IntKind} {p : Int} {xs : List LV} {z : LV} (hu : ∀ w, (underlying t).run P w = .ok (.array len E) w) (hs : ∀ w, (Go.sizeOf E).run P w = .ok sz w) (ht : ∀ w, (isAgg E).run P w = .ok false w)
    (hx : evA L x = some (.agg xs)) (hy : evA L y = some (.one (.int kd p))) (hp : p = (i : Int)) (hi : i < len) (hz : xs[i * sz]? = some z) (hd : Nat.blt d n = true) :
    AP P ops n { dst := some d, op := .index t x y, type := ty, pos := pos, after := after, guard := none } d (.one z) L B :=
  p_val hd fun K Ob w0 w a Bs L' Fs h hL hB => by
    obtain ⟨v, hv, vs, rfl, hreps⟩ := ev_of hL hx
    obtain ⟨u, hu', hr2⟩ := ev_of hL hy
    obtain rfl := rep_int hr2
    obtain ⟨v, hv2, hr⟩ := hreps.get hz
    refine ⟨v, ?_, hr⟩
    simp only [execOp, h.ev hv, h.ev hu']
    rw [Sem.run_bind, index_run hu hs ht hp hi hv2]
    rfl

/-! ### structs of whole numbers are compared -/
def ints (l : List Int) : List LV := l.map (LV.int .i64)
theorem ints_of {w : World} {O : Nat → Prop} : ∀ {l : List Int} {vs : List Value}, XReps w O vs (ints l) → vs = l.map (Value.int .i64)
  | [], [], _ => rfl
  | [], _ :: _, h => h.elim
  | _ :: _, [], h => h.elim
  | x :: l, v :: vs, h => by
    obtain ⟨h1, h2⟩ := h
    have e : v = .int .i64 x := rep_int (h := show ARep w O v (.one (.int .i64 x)) from h1)
    rw [e, ints_of h2]; rfl
theorem run_eqV {t : TypeId} {a b : List Int} (hg : P.eqGuardType P.depth t = false) (he : ∀ w, (Op.equal t (.agg (a.map (Value.int .i64)).toArray) (.agg (b.map (Value.int .i64)).toArray)).run P w = .ok (decide (a = b)) w)
    {ev : Operand → Value} {x y : Operand} {t' : TypeId} (hx : ev x = .agg (a.map (Value.int .i64)).toArray) (hy : ev y = .agg (b.map (Value.int .i64)).toArray) (w : World) :
    (execOp ev { dst := some d, op := .binOp .eql t x y t', type := ty, pos := pos, after := after, guard := none }).run P w = .ok (.value (.bool (decide (a = b)))) w
    ∧ (execOp ev { dst := some d, op := .binOp .neq t x y t', type := ty, pos := pos, after := after, guard := none }).run P w = .ok (.value (.bool (!decide (a = b)))) w := by
  constructor <;> simp [execOp, hx, hy, eqGuard, run_program, hg, Go.binOp, he]
theorem p_neV {x y : Operand} {xs ys : List LV} (a b : List Int) {r : Bool} {t t' : TypeId} (hg : P.eqGuardType P.depth t = false)
    (he : ∀ w, (Op.equal t (.agg (a.map (Value.int .i64)).toArray) (.agg (b.map (Value.int .i64)).toArray)).run P w = .ok (decide (a = b)) w)
    (hx : evA L x = some (.agg xs)) (hy : evA L y = some (.agg ys)) (hxs : xs = ints a) (hys : ys = ints b) (hr : (!decide (a = b)) = r) (hd : Nat.blt d n = true) :
    AP P ops n { dst := some d, op := .binOp .neq t x y t', type := ty, pos := pos, after := after, guard := none } d (.one (.bool r)) L B :=
  p_val hd fun K Ob w0 w aa Bs L' Fs h hL hB => by
    subst hxs hys hr
    obtain ⟨v, hv, vs, rfl, h1⟩ := ev_of hL hx
    obtain ⟨u, hu, us, rfl, h2⟩ := ev_of hL hy
    obtain rfl := ints_of h1
    obtain rfl := ints_of h2
    exact ⟨.bool (!decide (a = b)), (run_eqV hg he (h.ev hv) (h.ev hu) w).2, LRep.bool _⟩

/-! ### a pointer against nil -/
def isNilp : LV → Option Bool
  | .nilp => some true
  | .sh _ => some false
  | .ow _ _ => some false
  | .oel (some _) _ _ _ => some false
  | _ => none
theorem ptr_of {w : World} {O : Nat → Prop} {v : Value} {x : LV} {b : Bool} (h : ARep w O v (.one x)) (hb : isNilp x = some b) : ∃ p : Option Addr, v = .pointer p ∧ p.isNone = b := by
  cases x <;> first | (simp [isNilp] at hb; done) | skip
  case nilp => simp [isNilp] at hb; subst hb; cases (show LRep w O v .nilp from h); exact ⟨none, rfl, rfl⟩
  case sh l =>
    simp [isNilp] at hb; subst hb
    cases (show LRep w O v (.sh l) from h); exact ⟨_, rfl, rfl⟩
  case ow g o => simp [isNilp] at hb; subst hb; exact ⟨_, h, rfl⟩
  case oel r sz i o =>
    rcases r with _ | ⟨g, c⟩
    · simp [isNilp] at hb
    · simp [isNilp] at hb; subst hb; exact ⟨_, h, rfl⟩
theorem run_eqNil {t E : TypeId} {p : Option Addr} (hu : ∀ w, (underlying t).run P w = .ok (.pointer E) w) {ev : Operand → Value} {x y : Operand} {t' : TypeId} (hx : ev x = .pointer p) (hy : ev y = .pointer none) (w : World) :
    (execOp ev { dst := some d, op := .binOp .eql t x y t', type := ty, pos := pos, after := after, guard := none }).run P w = .ok (.value (.bool p.isNone)) w
    ∧ (execOp ev { dst := some d, op := .binOp .neq t x y t', type := ty, pos := pos, after := after, guard := none }).run P w = .ok (.value (.bool (!p.isNone))) w := by
  have he : (Op.equal t (.pointer p) (.pointer none)).run P w = .ok p.isNone w := by
    have key : ∀ d, (Op.equalIn (d + 1) t (.pointer p) (.pointer none)).run P w = .ok p.isNone w := fun d => by cases p <;> simp [Op.equalIn, hu]
    exact key 9999
  constructor <;> simp [execOp, hx, hy, eqGuard, Go.binOp, he]
theorem p_eqNil {x y : Operand} {u : LV} {b r : Bool} {t t' E : TypeId} (hu : ∀ w, (underlying t).run P w = .ok (.pointer E) w) (hx : evA L x = some (.one u)) (hy : evA L y = some (.one .nilp)) (hb : isNilp u = some b) (hr : b = r) (hd : Nat.blt d n = true) :
    AP P ops n { dst := some d, op := .binOp .eql t x y t', type := ty, pos := pos, after := after, guard := none } d (.one (.bool r)) L B :=
  p_val hd fun K Ob w0 w aa Bs L' Fs h hL hB => by
    subst hr
    obtain ⟨v, hv, h1⟩ := ev_of hL hx
    obtain ⟨u', hu', h2⟩ := ev_of hL hy
    obtain ⟨p, rfl, rfl⟩ := ptr_of h1 hb
    obtain ⟨q, rfl, hq⟩ := ptr_of h2 rfl
    obtain rfl : q = none := by cases q <;> simp_all
    exact ⟨.bool p.isNone, (run_eqNil hu (h.ev hv) (h.ev hu') w).1, LRep.bool _⟩
theorem p_neNil {x y : Operand} {u : LV} {b r : Bool} {t t' E : TypeId} (hu : ∀ w, (underlying t).run P w = .ok (.pointer E) w) (hx : evA L x = some (.one u)) (hy : evA L y = some (.one .nilp)) (hb : isNilp u = some b) (hr : (!b) = r) (hd : Nat.blt d n = true) :
    AP P ops n { dst := some d, op := .binOp .neq t x y t', type := ty, pos := pos, after := after, guard := none } d (.one (.bool r)) L B :=
  p_val hd fun K Ob w0 w aa Bs L' Fs h hL hB => by
    subst hr
    obtain ⟨v, hv, h1⟩ := ev_of hL hx
    obtain ⟨u', hu', h2⟩ := ev_of hL hy
    obtain ⟨p, rfl, rfl⟩ := ptr_of h1 hb
    obtain ⟨q, rfl, hq⟩ := ptr_of h2 rfl
    obtain rfl : q = none := by cases q <;> simp_all
    exact ⟨.bool (!p.isNone), (run_eqNil hu (h.ev hv) (h.ev hu') w).2, LRep.bool _⟩
end Orr
