/- Package curve, told in data. Package crowd, told in data. Packages alg (rational times), germ, pred, told in data. Arrays within structs, comparison of structs of whole numbers, and of pointers with nil. Regions that draw their order, where one of the operations writes what the call holds: the floor. Regions that draw their order, where one of the operations writes what the call holds: in plain data. -/
import Derived.Test.YtaffmkgbfgjgeaaGreatPart06
import Derived.DeepKeys
set_option linter.all false

namespace Orr
open Go Go.Proofs
theorem map_getD_div (p : List Int) (g : Int) : (List.range p.length).map (fun k => p.getD k 0 / g) = p.map (· / g) := by
  conv => rhs; rw [← map_getD p]
  simp

theorem d_curve_over {p : List Int} {g : Int} (hl : p.length < 274877906944) (hp : Bd 4294967295 p) (hg : isz g ≤ 4294967295) (h0 : g ≠ 0) (hd : ∀ z ∈ p, z % g = 0) : Does Tryz.prog 266 [.one (pl p), .agg [sg g, mg g]] (.one (pl (trim (p.map (· / g))))) := by
  refine does_ (n := 30) Tryz.func266 rfl Tryz.ntmps266 rfl ?_
  refine ac_seq ?_
  refine ac_reg ?_
  refine w_ (p_boxS rfl rfl rfl rfl) ?_
  refine w_ (p_assign rfl rfl) ?_
  refine aw_nil ?_
  refine ac_seq ?_
  refine ac_reg ?_
  refine w_ (p_move rfl rfl) ?_
  refine w_ (p_len (m := p.length) Tryz.runUnderlying52 rfl (rlen_pl _) rfl) ?_
  refine a_make (p.length) Tryz.runUnderlying52 Tryz.typeInfo55 rfl Tryz.sizeOf55 Tryz.zeroValue55 rfl rfl rfl rfl rfl rfl (rfl) (rfl) (hl) rfl fun r1 => ?_
  refine aw_zeros (ls' := (tab (fun k => p.getD k 0 / g) p.length 0).map ofI) 0 rfl rfl (by rw [← tab_zero]; exact zeros_I _) ?_
  refine w_ (p_assign rfl rfl) ?_
  refine aw_nil ?_
  refine ac_seq ?_
  refine ac_seq ?_
  refine ac_reg ?_
  refine w_ (p_move rfl rfl) ?_
  refine w_ (p_len (m := p.length) Tryz.runUnderlying52 rfl (rlen_pl _) rfl) ?_
  refine w_ (p_move rfl rfl) ?_
  refine aw_nil ?_
  refine ac_block ?_
  refine ac_pick [3, 5, 11, 12, 13] rfl ?_
  refine ac_loop (fun m L B => ∃ i, i ≤ p.length ∧ m = p.length - i ∧ L = [(3, .one (.sh [sg g, mg g])), (5, .one (.orow r1 2 0 p.length)), (11, .one (pl p)), (12, .one (.int .i64 (((p.length : Nat) : Int)))), (13, .one (.int .i64 ((i : Int))))] ∧ B = [.row r1 55 2 ((tab (fun k => p.getD k 0 / g) p.length i).map ofI)]) (m := _) ⟨0, Nat.zero_le _, rfl, rfl, rfl⟩ ?_
  rintro m L B ⟨i, hp0, hm, rfl, rfl⟩
  by_cases hlt : i < p.length
  · skip
    refine ac_seq ?_
    refine ac_reg ?_
    refine w_ (p_cmp rfl rfl rfl rfl) ?_
    refine aw_nil ?_
    refine ac_seq ?_
    refine ac_t rfl (decide_eq_true (by omega)) ?_
    refine ac_skip ?_
    refine ac_seq ?_
    refine ac_block ?_
    refine ac_seq ?_
    refine ac_reg ?_
    refine w_ (p_move rfl rfl) ?_
    refine w_ (p_index (i) Tryz.runUnderlying52 Tryz.sizeOf55 rfl rfl (rfl) (map_get (getD_some hlt)) rfl rfl) ?_
    refine w_ (p_loadSh Tryz.isAgg55 Tryz.sizeOf55 rfl rfl rfl rfl) ?_
    refine a_alloc Tryz.zeroValue55 rfl rfl fun g2 => ?_
    refine w_ (p_assign rfl rfl) ?_
    refine a_storeOw 0 Tryz.sizeOf55 rfl rfl rfl rfl rfl rfl rfl ?_
    refine aw_nil ?_
    refine ac_reg ?_
    refine w_ (p_move rfl rfl) ?_
    refine w_ (p_move rfl rfl) ?_
    refine w_ (p_loadOw 0 Tryz.isAgg55 Tryz.sizeOf55 rfl rfl rfl rfl rfl) ?_
    refine w_ (p_loadSh Tryz.isAgg55 Tryz.sizeOf55 rfl rfl rfl rfl) ?_
    refine w_ (p_call Tryz.func265 rfl rfl rfl rfl (d_whole_Exact (isInt_n _) (isInt_n _) (bd_getD hp i) (hg) (h0) (hd _ (List.mem_of_getElem? (getD_some hlt)))) rfl) ?_
    refine w_ (p_move rfl rfl) ?_
    refine w_ (p_extract rfl rfl rfl) ?_
    refine w_ (p_extract rfl rfl rfl) ?_
    refine w_ (p_indexO (i) Tryz.runUnderlying52 Tryz.sizeOf55 rfl rfl (rfl) (by omega) rfl) ?_
    refine a_storeO (ls2 := (tab (fun k => p.getD k 0 / g) p.length (i + 1)).map ofI) 1 Tryz.sizeOf55 rfl rfl rfl rfl rfl rfl (by rw [Nat.zero_add]; exact map_get (tab_get _ hlt)) rfl (by rw [Nat.zero_add]; exact (set_map ofI _ i (p.getD i 0 / g)).trans (by rw [← tab_set _ hlt])) ?_
    refine aw_nil ?_
    refine ac_reg ?_
    refine w_ (p_add (r := ((i + 1 : Nat) : Int)) rfl rfl (i64_is (by omega) (by omega)) rfl) ?_
    refine w_ (p_move rfl rfl) ?_
    refine aw_pick [3, 5, 11, 12, 13] rfl ?_
    refine aw_drop 1 rfl ?_
    refine aw_nil ?_
    refine ⟨_, ?_, i + 1, by omega, rfl, rfl, rfl⟩
    omega
  · skip
    refine ac_seq ?_
    refine ac_reg ?_
    refine w_ (p_cmp rfl rfl rfl rfl) ?_
    refine aw_nil ?_
    refine ac_seq ?_
    refine ac_f rfl (decide_eq_false (by omega)) ?_
    refine ac_exit ?_
    repeat refine seqQ_exit ?_
    refine blkQ_here ?_
    refine ac_seq ?_
    refine ac_reg ?_
    refine w_ (p_move rfl rfl) ?_
    have htab : (tab (fun k => p.getD k 0 / g) p.length i) = p.map (· / g) := by rw [show i = p.length from by omega, tab_all, map_getD_div]
    refine aw_pub 0 [28] rfl (allAre1 rfl) (by rw [List.length_map, tab_len _ (by omega)]) (by rw [List.length_map, tab_len _ (by omega)]; omega) rfl ?_
    refine w_ (p_call Tryz.func189 rfl rfl rfl rfl (d_poly_NormN (by rw [tab_len _ (by omega)]; exact hl) (by rw [htab]; exact bd_div hp g)) rfl) ?_
    refine w_ (p_assign rfl rfl) ?_
    refine aw_nil ?_
    refine ac_ret ?_
    exact retB_1 Tryz.results266 (rv_tmp rfl rfl) (by rw [htab])

set_option maxRecDepth 20000 in
theorem d_curve_norm {lx ly : List (List LV)} {px py : List Int} {b : Bool} {l : List Nat} {d : Int} (hx : IsInts lx px) (hy : IsInts ly py) (hd : IsInt (.bool b) (u32r l) d) (hk : Cs 4294967294 1073741824 (Crv.mk px py d)) : Does Tryz.prog 190 [.agg [.row lx, .row ly, .bool b, u32r l]] (.agg [pl (((Crv.norm (Crv.mk px py d))).x), pl (((Crv.norm (Crv.mk px py d))).y), sg (((Crv.norm (Crv.mk px py d))).d), mg (((Crv.norm (Crv.mk px py d))).d)]) := by
  refine does_ (n := 44) Tryz.func190 rfl Tryz.ntmps190 rfl ?_
  have hlx := hk.lx
  have hly := hk.ly
  simp only at hlx hly
  have htx := trim_len px
  have hty := trim_len py
  have hd1 : isz (Crv.mk px py d).d' ≤ 4294967295 := Nat.le_trans (isz_d' hk.d (by omega)) (by omega)
  have hg1 := Crv.isz_g (Crv.mk px py d) hd1
  have hgs : isz ((gcdL ((Crv.mk px py d).d' :: (trim px ++ trim py)) : Nat) : Int) ≤ 4294967295 := by
    have := hg1
    unfold Crv.g at this
    split at this
    · rwa [isz_neg] at this
    · exact this
  by_cases h0 : d = 0
  · skip
    rcases Int.lt_or_gt_of_ne (Crv.d'_ne (Crv.mk px py d)) with hneg | hpos
    · skip
      refine ac_seq ?_
      refine ac_reg ?_
      refine w_ (p_boxS rfl rfl rfl rfl) ?_
      refine a_alloc Tryz.zeroValue74 rfl rfl fun g1 => ?_
      refine aw_nil ?_
      refine ac_seq ?_
      refine ac_drawA mixed_ 10 [7, 8, 9, 10, 11, 12, 13, 14, 15, 5] [[], [0], [1], [], [3], [4], [], [6], [7], []] [.one (.sh [.row lx, .row ly, .bool b, u32r l]), .one (.row lx), .one (pl (trim px)), .one (.sh [.row ly, .bool b, u32r l]), .one (.row ly), .one (pl (trim py)), .one (.sh [.bool b, u32r l]), .agg [.bool b, u32r l], .agg [sg d, mg d], .un] [(9, 55, [.bool false, .slice none 0 0])] [[.bool false, .nils]] rfl rfl rfl (by decide) ⟨rfl, trivial⟩ rfl ⟨p_fieldSh fa_74_0 rfl rfl rfl, p_loadSh Tryz.isAgg52 Tryz.sizeOf52 rfl rfl rfl rfl, p_call Tryz.func189 rfl rfl rfl rfl (d_poly_Norm hx (by omega) (bd_mono hk.x (by omega))) rfl, p_fieldSh fa_74_1 rfl rfl rfl, p_loadSh Tryz.isAgg52 Tryz.sizeOf52 rfl rfl rfl rfl, p_call Tryz.func189 rfl rfl rfl rfl (d_poly_Norm hy (by omega) (bd_mono hk.y (by omega))) rfl, p_fieldSh fa_74_2 rfl rfl rfl, p_loadSh Tryz.isAgg55 Tryz.sizeOf55 rfl rfl rfl rfl, p_call Tryz.func251 rfl rfl rfl rfl (d_whole_Norm hd (Nat.le_trans hk.d (by omega))) rfl, al_alloc Tryz.zeroValue55 rfl, trivial⟩ fun g2 => ⟨_, _, rfl, rfl, ?_⟩
      refine w_ (p_assign rfl rfl) ?_
      refine w_ (p_assign rfl rfl) ?_
      refine a_storeOw 0 Tryz.sizeOf55 rfl rfl rfl rfl rfl rfl rfl ?_
      refine aw_nil ?_
      refine ac_seq ?_
      refine ac_seq ?_
      refine ac_reg ?_
      refine w_ (p_loadOw 0 Tryz.isAgg55 Tryz.sizeOf55 rfl rfl rfl rfl rfl) ?_
      refine w_ (p_call Tryz.func252 rfl rfl rfl rfl ((d_ZeroN _) ) rfl) ?_
      refine aw_nil ?_
      refine ac_t rfl (decide_eq_true h0) ?_
      refine ac_reg ?_
      refine w_ (p_call Tryz.func191 rfl rfl rfl rfl (d_whole_Of (by omega)) rfl) ?_
      refine a_storeOw 0 Tryz.sizeOf55 rfl rfl rfl rfl rfl rfl rfl ?_
      refine aw_blk (ys := ofI ((Crv.mk px py d).d')) 0 rfl rfl (by unfold Crv.d'; rw [if_pos h0]) ?_
      refine aw_nil ?_
      refine ac_seq ?_
      refine ac_reg ?_
      refine w_ (p_loadOw 0 Tryz.isAgg55 Tryz.sizeOf55 rfl rfl rfl rfl rfl) ?_
      refine a_lit Tryz.runUnderlying51 Tryz.sizeOf55 Tryz.zeroValue55 rfl rfl rfl rfl rfl rfl rfl rfl rfl rfl fun r3 => ?_
      refine w_ (p_move rfl rfl) ?_
      refine a_append (ls2 := ((Crv.mk px py d).d' :: trim px).map ofI) (m2 := 1 + (trim px).length) 0 Tryz.runUnderlying51 Tryz.runUnderlying52 Tryz.typeInfo55 rfl rfl Tryz.sizeOf55 Tryz.zeroValue55 rfl rfl rfl rfl rfl rfl rfl (Nat.le_refl _) (map_w _ (fun _ => rfl)) (map_f _ (fun _ => rfl)) (by rw [List.length_map]; omega) (rfl) (by rw [List.length_map]) fun r4 => ?_
      refine w_ (p_move rfl rfl) ?_
      refine a_append (ls2 := ((Crv.mk px py d).d' :: (trim px ++ trim py)).map ofI) (m2 := 1 + (trim px).length + (trim py).length) 0 Tryz.runUnderlying51 Tryz.runUnderlying52 Tryz.typeInfo55 rfl rfl Tryz.sizeOf55 Tryz.zeroValue55 rfl rfl rfl rfl rfl rfl rfl (by simp; omega) (map_w _ (fun _ => rfl)) (map_f _ (fun _ => rfl)) (by rw [List.length_map]; omega) (by rw [List.take_of_length_le (by simp; omega)]; simp) (by rw [List.length_map]) fun r5 => ?_
      refine aw_pub 0 [24] rfl (allAre1 rfl) (by simp; omega) (by simp; omega) rfl ?_
      refine w_ (p_call Tryz.func264 rfl rfl rfl rfl (d_whole_Gcd (isInts_n ((Crv.mk px py d).d' :: (trim px ++ trim py))) (by
          intro z hz
          rcases List.mem_cons.1 hz with rfl | hz
          · exact hd1
          · rcases List.mem_append.1 hz with hz | hz
            · exact Nat.le_trans (bd_trim hk.x z hz) (by omega)
            · exact Nat.le_trans (bd_trim hk.y z hz) (by omega))) rfl) ?_
      refine a_alloc Tryz.zeroValue55 rfl rfl fun g6 => ?_
      refine a_storeOw 0 Tryz.sizeOf55 rfl rfl rfl rfl rfl rfl rfl ?_
      refine aw_nil ?_
      refine ac_seq ?_
      refine ac_seq ?_
      refine ac_reg ?_
      refine w_ (p_fieldOw fa_55_0 rfl rfl) ?_
      refine w_ (p_loadOw 1 Tryz.isAgg4 Tryz.sizeOf4 rfl rfl rfl rfl rfl) ?_
      refine aw_nil ?_
      refine ac_t rfl (decide_eq_true hneg) ?_
      refine ac_reg ?_
      refine w_ (p_loadOw 0 Tryz.isAgg55 Tryz.sizeOf55 rfl rfl rfl rfl rfl) ?_
      refine w_ (p_call Tryz.func194 rfl rfl rfl rfl (d_whole_Neg (isInt_n _) (hgs)) rfl) ?_
      refine a_storeOw 0 Tryz.sizeOf55 rfl rfl rfl rfl rfl rfl rfl ?_
      refine aw_blk (ys := ofI ((Crv.mk px py d).g)) 0 rfl rfl (by unfold Crv.g; rw [if_pos hneg]) ?_
      refine aw_nil ?_
      refine ac_seq ?_
      refine ac_reg ?_
      refine w_ (p_loadOw 1 Tryz.isAgg55 Tryz.sizeOf55 rfl rfl rfl rfl rfl) ?_
      refine w_ (p_loadOw 0 Tryz.isAgg55 Tryz.sizeOf55 rfl rfl rfl rfl rfl) ?_
      refine w_ (p_call Tryz.func265 rfl rfl rfl rfl (d_whole_Exact (isInt_n _) (isInt_n _) (hd1) (hg1) (Crv.g_ne _) (Crv.g_dvd _ _ (List.mem_cons_self ..))) rfl) ?_
      refine w_ (p_move rfl rfl) ?_
      refine w_ (p_extract rfl rfl rfl) ?_
      refine w_ (p_extract rfl rfl rfl) ?_
      refine a_storeOw 1 Tryz.sizeOf55 rfl rfl rfl rfl rfl rfl rfl ?_
      refine aw_nil ?_
      refine ac_seq ?_
      refine ac_draw mixed_ 7 [36, 37, 38, 39, 40, 41, 42] [[], [], [0, 1], [], [], [3, 4], []] [.one (pl (trim px)), .agg [sg ((Crv.mk px py d).g), mg ((Crv.mk px py d).g)], .one (pl (trim ((trim px).map (· / ((Crv.mk px py d).g))))), .one (pl (trim py)), .agg [sg ((Crv.mk px py d).g), mg ((Crv.mk px py d).g)], .one (pl (trim ((trim py).map (· / ((Crv.mk px py d).g))))), .agg [sg (((Crv.mk px py d).d') / ((Crv.mk px py d).g)), mg (((Crv.mk px py d).d') / ((Crv.mk px py d).g))]] rfl rfl rfl ⟨p_move rfl rfl, p_loadOw 0 Tryz.isAgg55 Tryz.sizeOf55 rfl rfl rfl rfl rfl, p_call Tryz.func266 rfl rfl rfl rfl (d_curve_over (by omega) (bd_mono (bd_trim hk.x) (by omega)) (hg1) (Crv.g_ne _) (fun z hz => Crv.g_dvd (Crv.mk px py d) z (by simp [hz]))) rfl, p_move rfl rfl, p_loadOw 0 Tryz.isAgg55 Tryz.sizeOf55 rfl rfl rfl rfl rfl, p_call Tryz.func266 rfl rfl rfl rfl (d_curve_over (by omega) (bd_mono (bd_trim hk.y) (by omega)) (hg1) (Crv.g_ne _) (fun z hz => Crv.g_dvd (Crv.mk px py d) z (by simp [hz]))) rfl, p_loadOw 1 Tryz.isAgg55 Tryz.sizeOf55 rfl rfl rfl rfl rfl, trivial⟩ rfl ?_
      refine w_ (p_build (bd_74) rfl rfl rfl rfl) ?_
      refine a_storeOw 2 Tryz.sizeOf74 rfl rfl rfl rfl rfl rfl rfl ?_
      refine aw_nil ?_
      refine ac_ret ?_
      exact retB_1 Tryz.results190 (rv_cell 2 Tryz.isAgg74 Tryz.sizeOf74 rfl rfl rfl rfl rfl) (rfl)
    · skip
      refine ac_seq ?_
      refine ac_reg ?_
      refine w_ (p_boxS rfl rfl rfl rfl) ?_
      refine a_alloc Tryz.zeroValue74 rfl rfl fun g7 => ?_
      refine aw_nil ?_
      refine ac_seq ?_
      refine ac_drawA mixed_ 10 [7, 8, 9, 10, 11, 12, 13, 14, 15, 5] [[], [0], [1], [], [3], [4], [], [6], [7], []] [.one (.sh [.row lx, .row ly, .bool b, u32r l]), .one (.row lx), .one (pl (trim px)), .one (.sh [.row ly, .bool b, u32r l]), .one (.row ly), .one (pl (trim py)), .one (.sh [.bool b, u32r l]), .agg [.bool b, u32r l], .agg [sg d, mg d], .un] [(9, 55, [.bool false, .slice none 0 0])] [[.bool false, .nils]] rfl rfl rfl (by decide) ⟨rfl, trivial⟩ rfl ⟨p_fieldSh fa_74_0 rfl rfl rfl, p_loadSh Tryz.isAgg52 Tryz.sizeOf52 rfl rfl rfl rfl, p_call Tryz.func189 rfl rfl rfl rfl (d_poly_Norm hx (by omega) (bd_mono hk.x (by omega))) rfl, p_fieldSh fa_74_1 rfl rfl rfl, p_loadSh Tryz.isAgg52 Tryz.sizeOf52 rfl rfl rfl rfl, p_call Tryz.func189 rfl rfl rfl rfl (d_poly_Norm hy (by omega) (bd_mono hk.y (by omega))) rfl, p_fieldSh fa_74_2 rfl rfl rfl, p_loadSh Tryz.isAgg55 Tryz.sizeOf55 rfl rfl rfl rfl, p_call Tryz.func251 rfl rfl rfl rfl (d_whole_Norm hd (Nat.le_trans hk.d (by omega))) rfl, al_alloc Tryz.zeroValue55 rfl, trivial⟩ fun g8 => ⟨_, _, rfl, rfl, ?_⟩
      refine w_ (p_assign rfl rfl) ?_
      refine w_ (p_assign rfl rfl) ?_
      refine a_storeOw 0 Tryz.sizeOf55 rfl rfl rfl rfl rfl rfl rfl ?_
      refine aw_nil ?_
      refine ac_seq ?_
      refine ac_seq ?_
      refine ac_reg ?_
      refine w_ (p_loadOw 0 Tryz.isAgg55 Tryz.sizeOf55 rfl rfl rfl rfl rfl) ?_
      refine w_ (p_call Tryz.func252 rfl rfl rfl rfl ((d_ZeroN _) ) rfl) ?_
      refine aw_nil ?_
      refine ac_t rfl (decide_eq_true h0) ?_
      refine ac_reg ?_
      refine w_ (p_call Tryz.func191 rfl rfl rfl rfl (d_whole_Of (by omega)) rfl) ?_
      refine a_storeOw 0 Tryz.sizeOf55 rfl rfl rfl rfl rfl rfl rfl ?_
      refine aw_blk (ys := ofI ((Crv.mk px py d).d')) 0 rfl rfl (by unfold Crv.d'; rw [if_pos h0]) ?_
      refine aw_nil ?_
      refine ac_seq ?_
      refine ac_reg ?_
      refine w_ (p_loadOw 0 Tryz.isAgg55 Tryz.sizeOf55 rfl rfl rfl rfl rfl) ?_
      refine a_lit Tryz.runUnderlying51 Tryz.sizeOf55 Tryz.zeroValue55 rfl rfl rfl rfl rfl rfl rfl rfl rfl rfl fun r9 => ?_
      refine w_ (p_move rfl rfl) ?_
      refine a_append (ls2 := ((Crv.mk px py d).d' :: trim px).map ofI) (m2 := 1 + (trim px).length) 0 Tryz.runUnderlying51 Tryz.runUnderlying52 Tryz.typeInfo55 rfl rfl Tryz.sizeOf55 Tryz.zeroValue55 rfl rfl rfl rfl rfl rfl rfl (Nat.le_refl _) (map_w _ (fun _ => rfl)) (map_f _ (fun _ => rfl)) (by rw [List.length_map]; omega) (rfl) (by rw [List.length_map]) fun r10 => ?_
      refine w_ (p_move rfl rfl) ?_
      refine a_append (ls2 := ((Crv.mk px py d).d' :: (trim px ++ trim py)).map ofI) (m2 := 1 + (trim px).length + (trim py).length) 0 Tryz.runUnderlying51 Tryz.runUnderlying52 Tryz.typeInfo55 rfl rfl Tryz.sizeOf55 Tryz.zeroValue55 rfl rfl rfl rfl rfl rfl rfl (by simp; omega) (map_w _ (fun _ => rfl)) (map_f _ (fun _ => rfl)) (by rw [List.length_map]; omega) (by rw [List.take_of_length_le (by simp; omega)]; simp) (by rw [List.length_map]) fun r11 => ?_
      refine aw_pub 0 [24] rfl (allAre1 rfl) (by simp; omega) (by simp; omega) rfl ?_
      refine w_ (p_call Tryz.func264 rfl rfl rfl rfl (d_whole_Gcd (isInts_n ((Crv.mk px py d).d' :: (trim px ++ trim py))) (by
          intro z hz
          rcases List.mem_cons.1 hz with rfl | hz
          · exact hd1
          · rcases List.mem_append.1 hz with hz | hz
            · exact Nat.le_trans (bd_trim hk.x z hz) (by omega)
            · exact Nat.le_trans (bd_trim hk.y z hz) (by omega))) rfl) ?_
      refine a_alloc Tryz.zeroValue55 rfl rfl fun g12 => ?_
      refine a_storeOw 0 Tryz.sizeOf55 rfl rfl rfl rfl rfl rfl rfl ?_
      refine aw_blk (ys := ofI ((Crv.mk px py d).g)) 0 rfl rfl (by unfold Crv.g; rw [if_neg (by omega)]) ?_
      refine aw_nil ?_
      refine ac_seq ?_
      refine ac_seq ?_
      refine ac_reg ?_
      refine w_ (p_fieldOw fa_55_0 rfl rfl) ?_
      refine w_ (p_loadOw 1 Tryz.isAgg4 Tryz.sizeOf4 rfl rfl rfl rfl rfl) ?_
      refine aw_nil ?_
      refine ac_f rfl (decide_eq_false (by omega)) ?_
      refine ac_skip ?_
      refine ac_seq ?_
      refine ac_reg ?_
      refine w_ (p_loadOw 1 Tryz.isAgg55 Tryz.sizeOf55 rfl rfl rfl rfl rfl) ?_
      refine w_ (p_loadOw 0 Tryz.isAgg55 Tryz.sizeOf55 rfl rfl rfl rfl rfl) ?_
      refine w_ (p_call Tryz.func265 rfl rfl rfl rfl (d_whole_Exact (isInt_n _) (isInt_n _) (hd1) (hg1) (Crv.g_ne _) (Crv.g_dvd _ _ (List.mem_cons_self ..))) rfl) ?_
      refine w_ (p_move rfl rfl) ?_
      refine w_ (p_extract rfl rfl rfl) ?_
      refine w_ (p_extract rfl rfl rfl) ?_
      refine a_storeOw 1 Tryz.sizeOf55 rfl rfl rfl rfl rfl rfl rfl ?_
      refine aw_nil ?_
      refine ac_seq ?_
      refine ac_draw mixed_ 7 [36, 37, 38, 39, 40, 41, 42] [[], [], [0, 1], [], [], [3, 4], []] [.one (pl (trim px)), .agg [sg ((Crv.mk px py d).g), mg ((Crv.mk px py d).g)], .one (pl (trim ((trim px).map (· / ((Crv.mk px py d).g))))), .one (pl (trim py)), .agg [sg ((Crv.mk px py d).g), mg ((Crv.mk px py d).g)], .one (pl (trim ((trim py).map (· / ((Crv.mk px py d).g))))), .agg [sg (((Crv.mk px py d).d') / ((Crv.mk px py d).g)), mg (((Crv.mk px py d).d') / ((Crv.mk px py d).g))]] rfl rfl rfl ⟨p_move rfl rfl, p_loadOw 0 Tryz.isAgg55 Tryz.sizeOf55 rfl rfl rfl rfl rfl, p_call Tryz.func266 rfl rfl rfl rfl (d_curve_over (by omega) (bd_mono (bd_trim hk.x) (by omega)) (hg1) (Crv.g_ne _) (fun z hz => Crv.g_dvd (Crv.mk px py d) z (by simp [hz]))) rfl, p_move rfl rfl, p_loadOw 0 Tryz.isAgg55 Tryz.sizeOf55 rfl rfl rfl rfl rfl, p_call Tryz.func266 rfl rfl rfl rfl (d_curve_over (by omega) (bd_mono (bd_trim hk.y) (by omega)) (hg1) (Crv.g_ne _) (fun z hz => Crv.g_dvd (Crv.mk px py d) z (by simp [hz]))) rfl, p_loadOw 1 Tryz.isAgg55 Tryz.sizeOf55 rfl rfl rfl rfl rfl, trivial⟩ rfl ?_
      refine w_ (p_build (bd_74) rfl rfl rfl rfl) ?_
      refine a_storeOw 2 Tryz.sizeOf74 rfl rfl rfl rfl rfl rfl rfl ?_
      refine aw_nil ?_
      refine ac_ret ?_
      exact retB_1 Tryz.results190 (rv_cell 2 Tryz.isAgg74 Tryz.sizeOf74 rfl rfl rfl rfl rfl) (rfl)
  · have h0' : ¬ ((Crv.mk px py d).d' = 0) := Crv.d'_ne _
    rcases Int.lt_or_gt_of_ne (Crv.d'_ne (Crv.mk px py d)) with hneg | hpos
    · skip
      refine ac_seq ?_
      refine ac_reg ?_
      refine w_ (p_boxS rfl rfl rfl rfl) ?_
      refine a_alloc Tryz.zeroValue74 rfl rfl fun g13 => ?_
      refine aw_nil ?_
      refine ac_seq ?_
      refine ac_drawA mixed_ 10 [7, 8, 9, 10, 11, 12, 13, 14, 15, 5] [[], [0], [1], [], [3], [4], [], [6], [7], []] [.one (.sh [.row lx, .row ly, .bool b, u32r l]), .one (.row lx), .one (pl (trim px)), .one (.sh [.row ly, .bool b, u32r l]), .one (.row ly), .one (pl (trim py)), .one (.sh [.bool b, u32r l]), .agg [.bool b, u32r l], .agg [sg d, mg d], .un] [(9, 55, [.bool false, .slice none 0 0])] [[.bool false, .nils]] rfl rfl rfl (by decide) ⟨rfl, trivial⟩ rfl ⟨p_fieldSh fa_74_0 rfl rfl rfl, p_loadSh Tryz.isAgg52 Tryz.sizeOf52 rfl rfl rfl rfl, p_call Tryz.func189 rfl rfl rfl rfl (d_poly_Norm hx (by omega) (bd_mono hk.x (by omega))) rfl, p_fieldSh fa_74_1 rfl rfl rfl, p_loadSh Tryz.isAgg52 Tryz.sizeOf52 rfl rfl rfl rfl, p_call Tryz.func189 rfl rfl rfl rfl (d_poly_Norm hy (by omega) (bd_mono hk.y (by omega))) rfl, p_fieldSh fa_74_2 rfl rfl rfl, p_loadSh Tryz.isAgg55 Tryz.sizeOf55 rfl rfl rfl rfl, p_call Tryz.func251 rfl rfl rfl rfl (d_whole_Norm hd (Nat.le_trans hk.d (by omega))) rfl, al_alloc Tryz.zeroValue55 rfl, trivial⟩ fun g14 => ⟨_, _, rfl, rfl, ?_⟩
      refine w_ (p_assign rfl rfl) ?_
      refine w_ (p_assign rfl rfl) ?_
      refine a_storeOw 0 Tryz.sizeOf55 rfl rfl rfl rfl rfl rfl rfl ?_
      refine aw_blk (ys := ofI ((Crv.mk px py d).d')) 0 rfl rfl (by unfold Crv.d'; rw [if_neg h0]) ?_
      refine aw_nil ?_
      refine ac_seq ?_
      refine ac_seq ?_
      refine ac_reg ?_
      refine w_ (p_loadOw 0 Tryz.isAgg55 Tryz.sizeOf55 rfl rfl rfl rfl rfl) ?_
      refine w_ (p_call Tryz.func252 rfl rfl rfl rfl (d_ZeroN _) rfl) ?_
      refine aw_nil ?_
      refine ac_f rfl (decide_eq_false h0') ?_
      refine ac_skip ?_
      refine ac_seq ?_
      refine ac_reg ?_
      refine w_ (p_loadOw 0 Tryz.isAgg55 Tryz.sizeOf55 rfl rfl rfl rfl rfl) ?_
      refine a_lit Tryz.runUnderlying51 Tryz.sizeOf55 Tryz.zeroValue55 rfl rfl rfl rfl rfl rfl rfl rfl rfl rfl fun r15 => ?_
      refine w_ (p_move rfl rfl) ?_
      refine a_append (ls2 := ((Crv.mk px py d).d' :: trim px).map ofI) (m2 := 1 + (trim px).length) 0 Tryz.runUnderlying51 Tryz.runUnderlying52 Tryz.typeInfo55 rfl rfl Tryz.sizeOf55 Tryz.zeroValue55 rfl rfl rfl rfl rfl rfl rfl (Nat.le_refl _) (map_w _ (fun _ => rfl)) (map_f _ (fun _ => rfl)) (by rw [List.length_map]; omega) (rfl) (by rw [List.length_map]) fun r16 => ?_
      refine w_ (p_move rfl rfl) ?_
      refine a_append (ls2 := ((Crv.mk px py d).d' :: (trim px ++ trim py)).map ofI) (m2 := 1 + (trim px).length + (trim py).length) 0 Tryz.runUnderlying51 Tryz.runUnderlying52 Tryz.typeInfo55 rfl rfl Tryz.sizeOf55 Tryz.zeroValue55 rfl rfl rfl rfl rfl rfl rfl (by simp; omega) (map_w _ (fun _ => rfl)) (map_f _ (fun _ => rfl)) (by rw [List.length_map]; omega) (by rw [List.take_of_length_le (by simp; omega)]; simp) (by rw [List.length_map]) fun r17 => ?_
      refine aw_pub 0 [24] rfl (allAre1 rfl) (by simp; omega) (by simp; omega) rfl ?_
      refine w_ (p_call Tryz.func264 rfl rfl rfl rfl (d_whole_Gcd (isInts_n ((Crv.mk px py d).d' :: (trim px ++ trim py))) (by
          intro z hz
          rcases List.mem_cons.1 hz with rfl | hz
          · exact hd1
          · rcases List.mem_append.1 hz with hz | hz
            · exact Nat.le_trans (bd_trim hk.x z hz) (by omega)
            · exact Nat.le_trans (bd_trim hk.y z hz) (by omega))) rfl) ?_
      refine a_alloc Tryz.zeroValue55 rfl rfl fun g18 => ?_
      refine a_storeOw 0 Tryz.sizeOf55 rfl rfl rfl rfl rfl rfl rfl ?_
      refine aw_nil ?_
      refine ac_seq ?_
      refine ac_seq ?_
      refine ac_reg ?_
      refine w_ (p_fieldOw fa_55_0 rfl rfl) ?_
      refine w_ (p_loadOw 1 Tryz.isAgg4 Tryz.sizeOf4 rfl rfl rfl rfl rfl) ?_
      refine aw_nil ?_
      refine ac_t rfl (decide_eq_true hneg) ?_
      refine ac_reg ?_
      refine w_ (p_loadOw 0 Tryz.isAgg55 Tryz.sizeOf55 rfl rfl rfl rfl rfl) ?_
      refine w_ (p_call Tryz.func194 rfl rfl rfl rfl (d_whole_Neg (isInt_n _) (hgs)) rfl) ?_
      refine a_storeOw 0 Tryz.sizeOf55 rfl rfl rfl rfl rfl rfl rfl ?_
      refine aw_blk (ys := ofI ((Crv.mk px py d).g)) 0 rfl rfl (by unfold Crv.g; rw [if_pos hneg]) ?_
      refine aw_nil ?_
      refine ac_seq ?_
      refine ac_reg ?_
      refine w_ (p_loadOw 1 Tryz.isAgg55 Tryz.sizeOf55 rfl rfl rfl rfl rfl) ?_
      refine w_ (p_loadOw 0 Tryz.isAgg55 Tryz.sizeOf55 rfl rfl rfl rfl rfl) ?_
      refine w_ (p_call Tryz.func265 rfl rfl rfl rfl (d_whole_Exact (isInt_n _) (isInt_n _) (hd1) (hg1) (Crv.g_ne _) (Crv.g_dvd _ _ (List.mem_cons_self ..))) rfl) ?_
      refine w_ (p_move rfl rfl) ?_
      refine w_ (p_extract rfl rfl rfl) ?_
      refine w_ (p_extract rfl rfl rfl) ?_
      refine a_storeOw 1 Tryz.sizeOf55 rfl rfl rfl rfl rfl rfl rfl ?_
      refine aw_nil ?_
      refine ac_seq ?_
      refine ac_draw mixed_ 7 [36, 37, 38, 39, 40, 41, 42] [[], [], [0, 1], [], [], [3, 4], []] [.one (pl (trim px)), .agg [sg ((Crv.mk px py d).g), mg ((Crv.mk px py d).g)], .one (pl (trim ((trim px).map (· / ((Crv.mk px py d).g))))), .one (pl (trim py)), .agg [sg ((Crv.mk px py d).g), mg ((Crv.mk px py d).g)], .one (pl (trim ((trim py).map (· / ((Crv.mk px py d).g))))), .agg [sg (((Crv.mk px py d).d') / ((Crv.mk px py d).g)), mg (((Crv.mk px py d).d') / ((Crv.mk px py d).g))]] rfl rfl rfl ⟨p_move rfl rfl, p_loadOw 0 Tryz.isAgg55 Tryz.sizeOf55 rfl rfl rfl rfl rfl, p_call Tryz.func266 rfl rfl rfl rfl (d_curve_over (by omega) (bd_mono (bd_trim hk.x) (by omega)) (hg1) (Crv.g_ne _) (fun z hz => Crv.g_dvd (Crv.mk px py d) z (by simp [hz]))) rfl, p_move rfl rfl, p_loadOw 0 Tryz.isAgg55 Tryz.sizeOf55 rfl rfl rfl rfl rfl, p_call Tryz.func266 rfl rfl rfl rfl (d_curve_over (by omega) (bd_mono (bd_trim hk.y) (by omega)) (hg1) (Crv.g_ne _) (fun z hz => Crv.g_dvd (Crv.mk px py d) z (by simp [hz]))) rfl, p_loadOw 1 Tryz.isAgg55 Tryz.sizeOf55 rfl rfl rfl rfl rfl, trivial⟩ rfl ?_
      refine w_ (p_build (bd_74) rfl rfl rfl rfl) ?_
      refine a_storeOw 2 Tryz.sizeOf74 rfl rfl rfl rfl rfl rfl rfl ?_
      refine aw_nil ?_
      refine ac_ret ?_
      exact retB_1 Tryz.results190 (rv_cell 2 Tryz.isAgg74 Tryz.sizeOf74 rfl rfl rfl rfl rfl) (rfl)
    · skip
      refine ac_seq ?_
      refine ac_reg ?_
      refine w_ (p_boxS rfl rfl rfl rfl) ?_
      refine a_alloc Tryz.zeroValue74 rfl rfl fun g19 => ?_
      refine aw_nil ?_
      refine ac_seq ?_
      refine ac_drawA mixed_ 10 [7, 8, 9, 10, 11, 12, 13, 14, 15, 5] [[], [0], [1], [], [3], [4], [], [6], [7], []] [.one (.sh [.row lx, .row ly, .bool b, u32r l]), .one (.row lx), .one (pl (trim px)), .one (.sh [.row ly, .bool b, u32r l]), .one (.row ly), .one (pl (trim py)), .one (.sh [.bool b, u32r l]), .agg [.bool b, u32r l], .agg [sg d, mg d], .un] [(9, 55, [.bool false, .slice none 0 0])] [[.bool false, .nils]] rfl rfl rfl (by decide) ⟨rfl, trivial⟩ rfl ⟨p_fieldSh fa_74_0 rfl rfl rfl, p_loadSh Tryz.isAgg52 Tryz.sizeOf52 rfl rfl rfl rfl, p_call Tryz.func189 rfl rfl rfl rfl (d_poly_Norm hx (by omega) (bd_mono hk.x (by omega))) rfl, p_fieldSh fa_74_1 rfl rfl rfl, p_loadSh Tryz.isAgg52 Tryz.sizeOf52 rfl rfl rfl rfl, p_call Tryz.func189 rfl rfl rfl rfl (d_poly_Norm hy (by omega) (bd_mono hk.y (by omega))) rfl, p_fieldSh fa_74_2 rfl rfl rfl, p_loadSh Tryz.isAgg55 Tryz.sizeOf55 rfl rfl rfl rfl, p_call Tryz.func251 rfl rfl rfl rfl (d_whole_Norm hd (Nat.le_trans hk.d (by omega))) rfl, al_alloc Tryz.zeroValue55 rfl, trivial⟩ fun g20 => ⟨_, _, rfl, rfl, ?_⟩
      refine w_ (p_assign rfl rfl) ?_
      refine w_ (p_assign rfl rfl) ?_
      refine a_storeOw 0 Tryz.sizeOf55 rfl rfl rfl rfl rfl rfl rfl ?_
      refine aw_blk (ys := ofI ((Crv.mk px py d).d')) 0 rfl rfl (by unfold Crv.d'; rw [if_neg h0]) ?_
      refine aw_nil ?_
      refine ac_seq ?_
      refine ac_seq ?_
      refine ac_reg ?_
      refine w_ (p_loadOw 0 Tryz.isAgg55 Tryz.sizeOf55 rfl rfl rfl rfl rfl) ?_
      refine w_ (p_call Tryz.func252 rfl rfl rfl rfl (d_ZeroN _) rfl) ?_
      refine aw_nil ?_
      refine ac_f rfl (decide_eq_false h0') ?_
      refine ac_skip ?_
      refine ac_seq ?_
      refine ac_reg ?_
      refine w_ (p_loadOw 0 Tryz.isAgg55 Tryz.sizeOf55 rfl rfl rfl rfl rfl) ?_
      refine a_lit Tryz.runUnderlying51 Tryz.sizeOf55 Tryz.zeroValue55 rfl rfl rfl rfl rfl rfl rfl rfl rfl rfl fun r21 => ?_
      refine w_ (p_move rfl rfl) ?_
      refine a_append (ls2 := ((Crv.mk px py d).d' :: trim px).map ofI) (m2 := 1 + (trim px).length) 0 Tryz.runUnderlying51 Tryz.runUnderlying52 Tryz.typeInfo55 rfl rfl Tryz.sizeOf55 Tryz.zeroValue55 rfl rfl rfl rfl rfl rfl rfl (Nat.le_refl _) (map_w _ (fun _ => rfl)) (map_f _ (fun _ => rfl)) (by rw [List.length_map]; omega) (rfl) (by rw [List.length_map]) fun r22 => ?_
      refine w_ (p_move rfl rfl) ?_
      refine a_append (ls2 := ((Crv.mk px py d).d' :: (trim px ++ trim py)).map ofI) (m2 := 1 + (trim px).length + (trim py).length) 0 Tryz.runUnderlying51 Tryz.runUnderlying52 Tryz.typeInfo55 rfl rfl Tryz.sizeOf55 Tryz.zeroValue55 rfl rfl rfl rfl rfl rfl rfl (by simp; omega) (map_w _ (fun _ => rfl)) (map_f _ (fun _ => rfl)) (by rw [List.length_map]; omega) (by rw [List.take_of_length_le (by simp; omega)]; simp) (by rw [List.length_map]) fun r23 => ?_
      refine aw_pub 0 [24] rfl (allAre1 rfl) (by simp; omega) (by simp; omega) rfl ?_
      refine w_ (p_call Tryz.func264 rfl rfl rfl rfl (d_whole_Gcd (isInts_n ((Crv.mk px py d).d' :: (trim px ++ trim py))) (by
          intro z hz
          rcases List.mem_cons.1 hz with rfl | hz
          · exact hd1
          · rcases List.mem_append.1 hz with hz | hz
            · exact Nat.le_trans (bd_trim hk.x z hz) (by omega)
            · exact Nat.le_trans (bd_trim hk.y z hz) (by omega))) rfl) ?_
      refine a_alloc Tryz.zeroValue55 rfl rfl fun g24 => ?_
      refine a_storeOw 0 Tryz.sizeOf55 rfl rfl rfl rfl rfl rfl rfl ?_
      refine aw_blk (ys := ofI ((Crv.mk px py d).g)) 0 rfl rfl (by unfold Crv.g; rw [if_neg (by omega)]) ?_
      refine aw_nil ?_
      refine ac_seq ?_
      refine ac_seq ?_
      refine ac_reg ?_
      refine w_ (p_fieldOw fa_55_0 rfl rfl) ?_
      refine w_ (p_loadOw 1 Tryz.isAgg4 Tryz.sizeOf4 rfl rfl rfl rfl rfl) ?_
      refine aw_nil ?_
      refine ac_f rfl (decide_eq_false (by omega)) ?_
      refine ac_skip ?_
      refine ac_seq ?_
      refine ac_reg ?_
      refine w_ (p_loadOw 1 Tryz.isAgg55 Tryz.sizeOf55 rfl rfl rfl rfl rfl) ?_
      refine w_ (p_loadOw 0 Tryz.isAgg55 Tryz.sizeOf55 rfl rfl rfl rfl rfl) ?_
      refine w_ (p_call Tryz.func265 rfl rfl rfl rfl (d_whole_Exact (isInt_n _) (isInt_n _) (hd1) (hg1) (Crv.g_ne _) (Crv.g_dvd _ _ (List.mem_cons_self ..))) rfl) ?_
      refine w_ (p_move rfl rfl) ?_
      refine w_ (p_extract rfl rfl rfl) ?_
      refine w_ (p_extract rfl rfl rfl) ?_
      refine a_storeOw 1 Tryz.sizeOf55 rfl rfl rfl rfl rfl rfl rfl ?_
      refine aw_nil ?_
      refine ac_seq ?_
      refine ac_draw mixed_ 7 [36, 37, 38, 39, 40, 41, 42] [[], [], [0, 1], [], [], [3, 4], []] [.one (pl (trim px)), .agg [sg ((Crv.mk px py d).g), mg ((Crv.mk px py d).g)], .one (pl (trim ((trim px).map (· / ((Crv.mk px py d).g))))), .one (pl (trim py)), .agg [sg ((Crv.mk px py d).g), mg ((Crv.mk px py d).g)], .one (pl (trim ((trim py).map (· / ((Crv.mk px py d).g))))), .agg [sg (((Crv.mk px py d).d') / ((Crv.mk px py d).g)), mg (((Crv.mk px py d).d') / ((Crv.mk px py d).g))]] rfl rfl rfl ⟨p_move rfl rfl, p_loadOw 0 Tryz.isAgg55 Tryz.sizeOf55 rfl rfl rfl rfl rfl, p_call Tryz.func266 rfl rfl rfl rfl (d_curve_over (by omega) (bd_mono (bd_trim hk.x) (by omega)) (hg1) (Crv.g_ne _) (fun z hz => Crv.g_dvd (Crv.mk px py d) z (by simp [hz]))) rfl, p_move rfl rfl, p_loadOw 0 Tryz.isAgg55 Tryz.sizeOf55 rfl rfl rfl rfl rfl, p_call Tryz.func266 rfl rfl rfl rfl (d_curve_over (by omega) (bd_mono (bd_trim hk.y) (by omega)) (hg1) (Crv.g_ne _) (fun z hz => Crv.g_dvd (Crv.mk px py d) z (by simp [hz]))) rfl, p_loadOw 1 Tryz.isAgg55 Tryz.sizeOf55 rfl rfl rfl rfl rfl, trivial⟩ rfl ?_
      refine w_ (p_build (bd_74) rfl rfl rfl rfl) ?_
      refine a_storeOw 2 Tryz.sizeOf74 rfl rfl rfl rfl rfl rfl rfl ?_
      refine aw_nil ?_
      refine ac_ret ?_
      exact retB_1 Tryz.results190 (rv_cell 2 Tryz.isAgg74 Tryz.sizeOf74 rfl rfl rfl rfl rfl) (rfl)

def still (x y : Int) : Crv := Crv.norm ⟨trim [x], trim [y], 0⟩


theorem d_curve_Make {lx ly : List (List LV)} {px py : List Int} {b : Bool} {l : List Nat} {d : Int} (hx : IsInts lx px) (hy : IsInts ly py) (hd : IsInt (.bool b) (u32r l) d) (hk : Cs 4294967294 1073741824 (Crv.mk px py d)) (h0 : d ≠ 0) : Does Tryz.prog 253 [.one (.row lx), .one (.row ly), .agg [.bool b, u32r l]] (.tup [.agg [pl (((Crv.norm (Crv.mk px py d))).x), pl (((Crv.norm (Crv.mk px py d))).y), sg (((Crv.norm (Crv.mk px py d))).d), mg (((Crv.norm (Crv.mk px py d))).d)], .one (.int .i64 0)]) := by
  refine does_ (n := 17) Tryz.func253 rfl Tryz.ntmps253 rfl ?_
  refine ac_seq ?_
  refine ac_reg ?_
  refine w_ (p_boxS rfl rfl rfl rfl) ?_
  refine a_alloc Tryz.zeroValue74 rfl rfl fun g1 => ?_
  refine w_ (p_assign rfl rfl) ?_
  refine aw_nil ?_
  refine ac_seq ?_
  refine ac_seq ?_
  refine ac_reg ?_
  refine w_ (p_loadSh Tryz.isAgg55 Tryz.sizeOf55 rfl rfl rfl rfl) ?_
  refine w_ (p_call Tryz.func251 rfl rfl rfl rfl (d_whole_Norm hd (Nat.le_trans hk.d (by omega))) rfl) ?_
  refine w_ (p_call Tryz.func252 rfl rfl rfl rfl ((d_ZeroN _) ) rfl) ?_
  refine aw_nil ?_
  refine ac_f rfl (decide_eq_false h0) ?_
  refine ac_skip ?_
  refine ac_seq ?_
  refine ac_reg ?_
  refine w_ (p_move rfl rfl) ?_
  refine w_ (p_move rfl rfl) ?_
  refine w_ (p_loadSh Tryz.isAgg55 Tryz.sizeOf55 rfl rfl rfl rfl) ?_
  refine w_ (p_build (bd_74) rfl rfl rfl rfl) ?_
  refine w_ (p_call Tryz.func190 rfl rfl rfl rfl (d_curve_norm hx hy hd (hk)) rfl) ?_
  refine a_storeOw 0 Tryz.sizeOf74 rfl rfl rfl rfl rfl rfl rfl ?_
  refine w_ (p_assign rfl rfl) ?_
  refine aw_nil ?_
  refine ac_ret ?_
  exact retB_2 Tryz.results253 (rv_cell 0 Tryz.isAgg74 Tryz.sizeOf74 rfl rfl rfl rfl rfl) (rv_tmp rfl rfl) (rfl)

theorem d_curve_Of {lx ly : List (List LV)} {px py : List Int} (hx : IsInts lx px) (hy : IsInts ly py) (hk : Cs 4294967294 1073741824 (Crv.mk px py 0)) : Does Tryz.prog 112 [.one (.row lx), .one (.row ly)] (.agg [pl (((Crv.norm (Crv.mk px py 0))).x), pl (((Crv.norm (Crv.mk px py 0))).y), sg (((Crv.norm (Crv.mk px py 0))).d), mg (((Crv.norm (Crv.mk px py 0))).d)]) := by
  refine does_ (n := 9) Tryz.func112 rfl Tryz.ntmps112 rfl ?_
  refine ac_seq ?_
  refine ac_reg ?_
  refine a_alloc Tryz.zeroValue74 rfl rfl fun g1 => ?_
  refine aw_nil ?_
  refine ac_seq ?_
  refine ac_reg ?_
  refine w_ (p_move rfl rfl) ?_
  refine w_ (p_move rfl rfl) ?_
  refine w_ (p_build (bd_74) rfl rfl rfl rfl) ?_
  refine w_ (p_call Tryz.func190 rfl rfl rfl rfl (d_curve_norm hx hy (show IsInt (.bool false) (u32r []) 0 from isInt_zero) (hk)) rfl) ?_
  refine a_storeOw 0 Tryz.sizeOf74 rfl rfl rfl rfl rfl rfl rfl ?_
  refine aw_nil ?_
  refine ac_ret ?_
  exact retB_1 Tryz.results112 (rv_cell 0 Tryz.isAgg74 Tryz.sizeOf74 rfl rfl rfl rfl rfl) (rfl)

theorem cs_still {x y : Int} (hx : -9223372036854775808 ≤ x ∧ x ≤ 9223372036854775807) (hy : -9223372036854775808 ≤ y ∧ y ≤ 9223372036854775807) : Cs 64 1 ⟨trim [x], trim [y], 0⟩ := by
  have key : ∀ z : Int, -9223372036854775808 ≤ z ∧ z ≤ 9223372036854775807 → isz z ≤ 64 := fun z hz => by
    rw [isz_le]
    have : (2 : Nat) ^ 64 = 18446744073709551616 := by decide
    omega
  refine ⟨bd_trim fun z hz => ?_, bd_trim fun z hz => ?_, Nat.zero_le _, trim_len [x], trim_len [y]⟩
  · rw [List.mem_singleton] at hz; rw [hz]; exact key x hx
  · rw [List.mem_singleton] at hz; rw [hz]; exact key y hy

theorem d_curve_Still {x y : Int} (hx : -9223372036854775808 ≤ x ∧ x ≤ 9223372036854775807) (hy : -9223372036854775808 ≤ y ∧ y ≤ 9223372036854775807) : Does Tryz.prog 45 [.one (.int .i64 x), .one (.int .i64 y)] (.agg [pl (((still x y)).x), pl (((still x y)).y), sg (((still x y)).d), mg (((still x y)).d)]) := by
  refine does_ (n := 12) Tryz.func45 rfl Tryz.ntmps45 rfl ?_
  refine ac_seq ?_
  refine ac_reg ?_
  refine a_alloc Tryz.zeroValue74 rfl rfl fun g1 => ?_
  refine aw_nil ?_
  refine ac_seq ?_
  refine ac_reg ?_
  refine w_ (p_move rfl rfl) ?_
  refine w_ (p_lit Tryz.runUnderlying23 Tryz.sizeOf3 Tryz.zeroValue3 rfl rfl rfl rfl rfl rfl rfl rfl rfl rfl) ?_
  refine w_ (p_call Tryz.func113 rfl rfl rfl rfl (d_poly_Of (p := [x]) (show 1 < 274877906944 by decide) (by intro z hz; rw [List.mem_singleton] at hz; rw [hz]; exact hx)) rfl) ?_
  refine w_ (p_move rfl rfl) ?_
  refine w_ (p_lit Tryz.runUnderlying23 Tryz.sizeOf3 Tryz.zeroValue3 rfl rfl rfl rfl rfl rfl rfl rfl rfl rfl) ?_
  refine w_ (p_call Tryz.func113 rfl rfl rfl rfl (d_poly_Of (p := [y]) (show 1 < 274877906944 by decide) (by intro z hz; rw [List.mem_singleton] at hz; rw [hz]; exact hy)) rfl) ?_
  refine w_ (p_call Tryz.func112 rfl rfl rfl rfl (d_curve_Of (isInts_n _) (isInts_n _) ((cs_still hx hy).mono (by omega) (by omega))) rfl) ?_
  refine a_storeOw 0 Tryz.sizeOf74 rfl rfl rfl rfl rfl rfl rfl ?_
  refine aw_nil ?_
  refine ac_ret ?_
  exact retB_1 Tryz.results45 (rv_cell 0 Tryz.isAgg74 Tryz.sizeOf74 rfl rfl rfl rfl rfl) (rfl)

theorem norm_d1 (px py : List Int) : Crv.norm ⟨px, py, 1⟩ = Crv.norm ⟨px, py, 0⟩ := rfl

theorem d_crowd_fresh {lx ly : List (List LV)} {px py : List Int} {b : Bool} {l : List Nat} {d : Int} (hx : IsInts lx px) (hy : IsInts ly py) (hd : IsInt (.bool b) (u32r l) d) (hk : Cs 4294967294 1073741824 (Crv.mk px py d)) {id : Int} : Does Tryz.prog 204 [.agg [.row lx, .row ly, .bool b, u32r l, .int .i64 id]] (.agg [pl (((Crv.norm (Crv.mk px py d))).x), pl (((Crv.norm (Crv.mk px py d))).y), sg (((Crv.norm (Crv.mk px py d))).d), mg (((Crv.norm (Crv.mk px py d))).d), .int .i64 id]) := by
  refine does_ (n := 24) Tryz.func204 rfl Tryz.ntmps204 rfl ?_
  by_cases h0 : d = 0
  · skip
    refine ac_seq ?_
    refine ac_reg ?_
    refine a_box rfl rfl rfl fun g1 => ?_
    refine a_alloc Tryz.zeroValue76 rfl rfl fun g2 => ?_
    refine aw_nil ?_
    refine ac_seq ?_
    refine ac_reg ?_
    refine w_ (p_fieldOw fa_76_0 rfl rfl) ?_
    refine w_ (p_fieldOw fa_74_2 rfl rfl) ?_
    refine w_ (p_loadOw 1 Tryz.isAgg55 Tryz.sizeOf55 rfl rfl rfl rfl rfl) ?_
    refine a_alloc Tryz.zeroValue55 rfl rfl fun g3 => ?_
    refine a_storeOw 0 Tryz.sizeOf55 rfl rfl rfl rfl rfl rfl rfl ?_
    refine aw_nil ?_
    refine ac_seq ?_
    refine ac_seq ?_
    refine ac_reg ?_
    refine w_ (p_loadOw 0 Tryz.isAgg55 Tryz.sizeOf55 rfl rfl rfl rfl rfl) ?_
    refine w_ (p_call Tryz.func251 rfl rfl rfl rfl (d_whole_Norm hd (Nat.le_trans hk.d (by omega))) rfl) ?_
    refine w_ (p_call Tryz.func252 rfl rfl rfl rfl ((d_ZeroN _) ) rfl) ?_
    refine aw_nil ?_
    refine ac_t rfl (decide_eq_true h0) ?_
    refine ac_reg ?_
    refine w_ (p_call Tryz.func191 rfl rfl rfl rfl (d_whole_Of (by omega)) rfl) ?_
    refine a_storeOw 0 Tryz.sizeOf55 rfl rfl rfl rfl rfl rfl rfl ?_
    refine aw_nil ?_
    refine ac_seq ?_
    refine ac_reg ?_
    refine w_ (p_fieldOw fa_76_0 rfl rfl) ?_
    refine w_ (p_fieldOw fa_74_0 rfl rfl) ?_
    refine w_ (p_loadOw 2 Tryz.isAgg52 Tryz.sizeOf52 rfl rfl rfl rfl rfl) ?_
    refine w_ (p_fieldOw fa_76_0 rfl rfl) ?_
    refine w_ (p_fieldOw fa_74_1 rfl rfl) ?_
    refine w_ (p_loadOw 2 Tryz.isAgg52 Tryz.sizeOf52 rfl rfl rfl rfl rfl) ?_
    refine w_ (p_loadOw 0 Tryz.isAgg55 Tryz.sizeOf55 rfl rfl rfl rfl rfl) ?_
    refine w_ (p_call Tryz.func253 rfl rfl rfl rfl (d_curve_Make hx hy (isInt_n _) (⟨hk.x, hk.y, by show isz 1 ≤ _; decide, hk.lx, hk.ly⟩) (by decide)) rfl) ?_
    refine w_ (p_move rfl rfl) ?_
    refine w_ (p_extract rfl rfl rfl) ?_
    refine w_ (p_extract rfl rfl rfl) ?_
    refine w_ (p_fieldOw fa_76_0 rfl rfl) ?_
    refine a_storeOw 2 Tryz.sizeOf74 rfl rfl rfl rfl rfl rfl rfl ?_
    refine aw_nil ?_
    refine ac_seq ?_
    refine ac_reg ?_
    refine w_ (p_loadOw 2 Tryz.isAgg76 Tryz.sizeOf76 rfl rfl rfl rfl rfl) ?_
    refine a_storeOw 1 Tryz.sizeOf76 rfl rfl rfl rfl rfl rfl rfl ?_
    refine aw_nil ?_
    refine ac_ret ?_
    exact retB_1 Tryz.results204 (rv_cell 1 Tryz.isAgg76 Tryz.sizeOf76 rfl rfl rfl rfl rfl) (by rw [h0, norm_d1])
  · skip
    refine ac_seq ?_
    refine ac_reg ?_
    refine a_box rfl rfl rfl fun g4 => ?_
    refine a_alloc Tryz.zeroValue76 rfl rfl fun g5 => ?_
    refine aw_nil ?_
    refine ac_seq ?_
    refine ac_reg ?_
    refine w_ (p_fieldOw fa_76_0 rfl rfl) ?_
    refine w_ (p_fieldOw fa_74_2 rfl rfl) ?_
    refine w_ (p_loadOw 1 Tryz.isAgg55 Tryz.sizeOf55 rfl rfl rfl rfl rfl) ?_
    refine a_alloc Tryz.zeroValue55 rfl rfl fun g6 => ?_
    refine a_storeOw 0 Tryz.sizeOf55 rfl rfl rfl rfl rfl rfl rfl ?_
    refine aw_nil ?_
    refine ac_seq ?_
    refine ac_seq ?_
    refine ac_reg ?_
    refine w_ (p_loadOw 0 Tryz.isAgg55 Tryz.sizeOf55 rfl rfl rfl rfl rfl) ?_
    refine w_ (p_call Tryz.func251 rfl rfl rfl rfl (d_whole_Norm hd (Nat.le_trans hk.d (by omega))) rfl) ?_
    refine w_ (p_call Tryz.func252 rfl rfl rfl rfl ((d_ZeroN _) ) rfl) ?_
    refine aw_nil ?_
    refine ac_f rfl (decide_eq_false h0) ?_
    refine ac_skip ?_
    refine ac_seq ?_
    refine ac_reg ?_
    refine w_ (p_fieldOw fa_76_0 rfl rfl) ?_
    refine w_ (p_fieldOw fa_74_0 rfl rfl) ?_
    refine w_ (p_loadOw 2 Tryz.isAgg52 Tryz.sizeOf52 rfl rfl rfl rfl rfl) ?_
    refine w_ (p_fieldOw fa_76_0 rfl rfl) ?_
    refine w_ (p_fieldOw fa_74_1 rfl rfl) ?_
    refine w_ (p_loadOw 2 Tryz.isAgg52 Tryz.sizeOf52 rfl rfl rfl rfl rfl) ?_
    refine w_ (p_loadOw 0 Tryz.isAgg55 Tryz.sizeOf55 rfl rfl rfl rfl rfl) ?_
    refine w_ (p_call Tryz.func253 rfl rfl rfl rfl (d_curve_Make hx hy hd (hk) (h0)) rfl) ?_
    refine w_ (p_move rfl rfl) ?_
    refine w_ (p_extract rfl rfl rfl) ?_
    refine w_ (p_extract rfl rfl rfl) ?_
    refine w_ (p_fieldOw fa_76_0 rfl rfl) ?_
    refine a_storeOw 2 Tryz.sizeOf74 rfl rfl rfl rfl rfl rfl rfl ?_
    refine aw_nil ?_
    refine ac_seq ?_
    refine ac_reg ?_
    refine w_ (p_loadOw 2 Tryz.isAgg76 Tryz.sizeOf76 rfl rfl rfl rfl rfl) ?_
    refine a_storeOw 1 Tryz.sizeOf76 rfl rfl rfl rfl rfl rfl rfl ?_
    refine aw_nil ?_
    refine ac_ret ?_
    exact retB_1 Tryz.results204 (rv_cell 1 Tryz.isAgg76 Tryz.sizeOf76 rfl rfl rfl rfl rfl) (rfl)

theorem d_crowd_freshN {p : Pt} (hn : Nml p.c) (hk : Cs 4294967294 1073741824 p.c) : Does Tryz.prog 204 [.agg (ofPt p)] (.agg (ofPt p)) := by
  have h := d_crowd_fresh (id := p.id) (isInts_n p.c.x) (isInts_n p.c.y) (isInt_n p.c.d) hk
  rw [Crv.norm_of hn] at h
  exact h

end Orr

namespace Orr
open Go Go.Proofs
set_option maxRecDepth 20000 in
theorem d_crowd_at {l : List Pt} {id : Int} (hl : l.length < 1073741824) : Does Tryz.prog 203 [.agg [pts l], .one (.int .i64 id)] (.tup [.one (.int .i64 (((pos l id : Nat) : Int))), .one (.bool (has l id))]) := by
  refine does_ (n := 40) Tryz.func203 rfl Tryz.ntmps203 rfl ?_
  refine ac_seq ?_
  refine ac_reg ?_
  refine w_ (p_boxS rfl rfl rfl rfl) ?_
  refine w_ (p_assign rfl rfl) ?_
  refine w_ (p_assign rfl rfl) ?_
  refine aw_nil ?_
  refine ac_seq ?_
  refine ac_reg ?_
  refine w_ (p_assign rfl rfl) ?_
  refine aw_nil ?_
  refine ac_seq ?_
  refine ac_block ?_
  refine ac_pick [1, 2, 6] rfl ?_
  refine ac_loop (fun m L B => ∃ k, k ≤ l.length ∧ (∀ j p, j < k → l[j]? = some p → p.id < id) ∧ m = l.length - k ∧ L = [(1, .one (.int .i64 id)), (2, .one (.sh [pts l])), (6, .one (.int .i64 ((k : Int))))] ∧ B = []) (m := _) ⟨0, Nat.zero_le _, fun j p hj => absurd hj (Nat.not_lt_zero _), rfl, rfl, rfl⟩ ?_
  rintro m L B ⟨k, hp0, hp1, hm, rfl, rfl⟩
  by_cases hlt : k < l.length
  · obtain ⟨p, hp⟩ : ∃ p, l[k]? = some p := ⟨_, List.getElem?_eq_getElem hlt⟩
    by_cases hid : p.id < id
    · skip
      refine ac_seq ?_
      refine ac_seq ?_
      refine ac_reg ?_
      refine w_ (p_move rfl rfl) ?_
      refine w_ (p_fieldSh fa_106_0 rfl rfl rfl) ?_
      refine w_ (p_loadSh Tryz.isAgg22 Tryz.sizeOf22 rfl rfl rfl rfl) ?_
      refine w_ (p_len (m := l.length) Tryz.runUnderlying22 rfl (rlen_pts _) rfl) ?_
      refine w_ (p_cmp rfl rfl rfl rfl) ?_
      refine w_ (p_move rfl rfl) ?_
      refine w_ ((p_grun rfl rfl (decide_eq_true (by omega)) (p_fieldSh fa_106_0 rfl rfl rfl))) ?_
      refine w_ ((p_grun rfl rfl (decide_eq_true (by omega)) (p_loadSh Tryz.isAgg22 Tryz.sizeOf22 rfl rfl rfl rfl))) ?_
      refine w_ ((p_grun rfl rfl (decide_eq_true (by omega)) (p_move rfl rfl))) ?_
      refine w_ ((p_grun rfl rfl (decide_eq_true (by omega)) (p_index (k) Tryz.runUnderlying22 Tryz.sizeOf76 rfl rfl (rfl) (map_get hp) rfl rfl))) ?_
      refine w_ ((p_grun rfl rfl (decide_eq_true (by omega)) (p_fieldSh fa_76_1 rfl rfl rfl))) ?_
      refine w_ ((p_grun rfl rfl (decide_eq_true (by omega)) (p_loadSh Tryz.isAgg3 Tryz.sizeOf3 rfl rfl rfl rfl))) ?_
      refine w_ ((p_grun rfl rfl (decide_eq_true (by omega)) (p_move rfl rfl))) ?_
      refine w_ ((p_grun rfl rfl (decide_eq_true (by omega)) (p_cmp rfl rfl rfl rfl))) ?_
      refine w_ (p_pickT rfl (decide_eq_true (by omega)) rfl rfl) ?_
      refine aw_nil ?_
      refine ac_t rfl (decide_eq_true hid) ?_
      refine ac_skip ?_
      refine ac_block ?_
      refine ac_reg ?_
      refine w_ (p_move rfl rfl) ?_
      refine w_ (p_add (r := ((k + 1 : Nat) : Int)) rfl rfl (i64_is (by omega) (by omega)) rfl) ?_
      refine w_ (p_assign rfl rfl) ?_
      refine aw_pick [1, 2, 6] rfl ?_
      refine aw_nil ?_
      refine ⟨_, ?_, k + 1, by omega, fun j q hj hq => by
          rcases Nat.lt_or_ge j k with h1 | h1
          · exact hp1 j q h1 hq
          · rw [show j = k from by omega, hp] at hq; injection hq with hq; rw [← hq]; exact hid, rfl, rfl, rfl⟩
      omega
    · skip
      refine ac_seq ?_
      refine ac_seq ?_
      refine ac_reg ?_
      refine w_ (p_move rfl rfl) ?_
      refine w_ (p_fieldSh fa_106_0 rfl rfl rfl) ?_
      refine w_ (p_loadSh Tryz.isAgg22 Tryz.sizeOf22 rfl rfl rfl rfl) ?_
      refine w_ (p_len (m := l.length) Tryz.runUnderlying22 rfl (rlen_pts _) rfl) ?_
      refine w_ (p_cmp rfl rfl rfl rfl) ?_
      refine w_ (p_move rfl rfl) ?_
      refine w_ ((p_grun rfl rfl (decide_eq_true (by omega)) (p_fieldSh fa_106_0 rfl rfl rfl))) ?_
      refine w_ ((p_grun rfl rfl (decide_eq_true (by omega)) (p_loadSh Tryz.isAgg22 Tryz.sizeOf22 rfl rfl rfl rfl))) ?_
      refine w_ ((p_grun rfl rfl (decide_eq_true (by omega)) (p_move rfl rfl))) ?_
      refine w_ ((p_grun rfl rfl (decide_eq_true (by omega)) (p_index (k) Tryz.runUnderlying22 Tryz.sizeOf76 rfl rfl (rfl) (map_get hp) rfl rfl))) ?_
      refine w_ ((p_grun rfl rfl (decide_eq_true (by omega)) (p_fieldSh fa_76_1 rfl rfl rfl))) ?_
      refine w_ ((p_grun rfl rfl (decide_eq_true (by omega)) (p_loadSh Tryz.isAgg3 Tryz.sizeOf3 rfl rfl rfl rfl))) ?_
      refine w_ ((p_grun rfl rfl (decide_eq_true (by omega)) (p_move rfl rfl))) ?_
      refine w_ ((p_grun rfl rfl (decide_eq_true (by omega)) (p_cmp rfl rfl rfl rfl))) ?_
      refine w_ (p_pickT rfl (decide_eq_true (by omega)) rfl rfl) ?_
      refine aw_nil ?_
      refine ac_f rfl (decide_eq_false hid) ?_
      refine ac_exit ?_
      repeat refine seqQ_exit ?_
      refine blkQ_here ?_
      refine ac_seq ?_
      refine ac_draw mixed_ 17 [24, 25, 26, 27, 28, 29, 30, 31, 32, 33, 34, 35, 36, 37, 38, 39, 4] [[], [], [], [2], [3], [1, 4], [5], [6], [6, 7], [6], [6, 8, 9], [6, 10], [6, 11], [6], [6, 12, 13], [6, 14], [0]] [.one (.int .i64 ((k : Int))), .one (.int .i64 ((k : Int))), .one (.sh [pts l]), .one (pts l), .one (.int .i64 (((l.length : Nat) : Int))), .one (.bool ((decide (((k : Int)) < (((l.length : Nat) : Int)))))), .one (.bool ((decide (((k : Int)) < (((l.length : Nat) : Int)))))), .one (.sh [pts l]), .one (pts l), .one (.int .i64 ((k : Int))), .one (.sh [pl p.c.x, pl p.c.y, sg p.c.d, mg p.c.d, .int .i64 p.id]), .one (.sh [.int .i64 p.id]), .one (.int .i64 p.id), .one (.int .i64 id), .one (.bool ((decide (p.id = id)))), .one (.bool ((decide (p.id = id)))), .one (.int .i64 ((k : Int)))] rfl rfl rfl ⟨p_move rfl rfl, p_move rfl rfl, p_fieldSh fa_106_0 rfl rfl rfl, p_loadSh Tryz.isAgg22 Tryz.sizeOf22 rfl rfl rfl rfl, p_len (m := l.length) Tryz.runUnderlying22 rfl (rlen_pts _) rfl, p_cmp rfl rfl rfl rfl, p_move rfl rfl, (p_grun rfl rfl (decide_eq_true (by omega)) (p_fieldSh fa_106_0 rfl rfl rfl)), (p_grun rfl rfl (decide_eq_true (by omega)) (p_loadSh Tryz.isAgg22 Tryz.sizeOf22 rfl rfl rfl rfl)), (p_grun rfl rfl (decide_eq_true (by omega)) (p_move rfl rfl)), (p_grun rfl rfl (decide_eq_true (by omega)) (p_index (k) Tryz.runUnderlying22 Tryz.sizeOf76 rfl rfl (rfl) (map_get hp) rfl rfl)), (p_grun rfl rfl (decide_eq_true (by omega)) (p_fieldSh fa_76_1 rfl rfl rfl)), (p_grun rfl rfl (decide_eq_true (by omega)) (p_loadSh Tryz.isAgg3 Tryz.sizeOf3 rfl rfl rfl rfl)), (p_grun rfl rfl (decide_eq_true (by omega)) (p_move rfl rfl)), (p_grun rfl rfl (decide_eq_true (by omega)) (p_cmp rfl rfl rfl rfl)), p_pickT rfl (decide_eq_true (by omega)) rfl rfl, p_assign rfl rfl, trivial⟩ rfl ?_
      refine w_ (p_assign rfl rfl) ?_
      refine aw_nil ?_
      have hpos := pos_eq hp1 (.inr ⟨p, hp, hid⟩)
      have hhas : has l id = decide (p.id = id) := by unfold has; rw [hpos, hp]
      refine ac_ret ?_
      exact retB_2 Tryz.results203 (rv_tmp rfl rfl) (rv_tmp rfl rfl) (by rw [hpos, hhas])
  · skip
    refine ac_seq ?_
    refine ac_seq ?_
    refine ac_reg ?_
    refine w_ (p_move rfl rfl) ?_
    refine w_ (p_fieldSh fa_106_0 rfl rfl rfl) ?_
    refine w_ (p_loadSh Tryz.isAgg22 Tryz.sizeOf22 rfl rfl rfl rfl) ?_
    refine w_ (p_len (m := l.length) Tryz.runUnderlying22 rfl (rlen_pts _) rfl) ?_
    refine w_ (p_cmp rfl rfl rfl rfl) ?_
    refine w_ (p_move rfl rfl) ?_
    refine w_ (p_gskip rfl rfl (decide_eq_false (by omega)) rfl) ?_
    refine w_ (p_gskip rfl rfl (decide_eq_false (by omega)) rfl) ?_
    refine w_ (p_gskip rfl rfl (decide_eq_false (by omega)) rfl) ?_
    refine w_ (p_gskip rfl rfl (decide_eq_false (by omega)) rfl) ?_
    refine w_ (p_gskip rfl rfl (decide_eq_false (by omega)) rfl) ?_
    refine w_ (p_gskip rfl rfl (decide_eq_false (by omega)) rfl) ?_
    refine w_ (p_gskip rfl rfl (decide_eq_false (by omega)) rfl) ?_
    refine w_ (p_gskip rfl rfl (decide_eq_false (by omega)) rfl) ?_
    refine w_ (p_pickF rfl (decide_eq_false (by omega)) rfl rfl) ?_
    refine aw_nil ?_
    refine ac_f rfl (rfl) ?_
    refine ac_exit ?_
    repeat refine seqQ_exit ?_
    refine blkQ_here ?_
    refine ac_seq ?_
    refine ac_draw mixed_ 17 [24, 25, 26, 27, 28, 29, 30, 31, 32, 33, 34, 35, 36, 37, 38, 39, 4] [[], [], [], [2], [3], [1, 4], [5], [6], [6, 7], [6], [6, 8, 9], [6, 10], [6, 11], [6], [6, 12, 13], [6, 14], [0]] [.one (.int .i64 ((k : Int))), .one (.int .i64 ((k : Int))), .one (.sh [pts l]), .one (pts l), .one (.int .i64 (((l.length : Nat) : Int))), .one (.bool ((decide (((k : Int)) < (((l.length : Nat) : Int)))))), .one (.bool ((decide (((k : Int)) < (((l.length : Nat) : Int)))))), .un, .un, .un, .un, .un, .un, .un, .un, .one (.bool false), .one (.int .i64 ((k : Int)))] rfl rfl rfl ⟨p_move rfl rfl, p_move rfl rfl, p_fieldSh fa_106_0 rfl rfl rfl, p_loadSh Tryz.isAgg22 Tryz.sizeOf22 rfl rfl rfl rfl, p_len (m := l.length) Tryz.runUnderlying22 rfl (rlen_pts _) rfl, p_cmp rfl rfl rfl rfl, p_move rfl rfl, p_gskip rfl rfl (decide_eq_false (by omega)) rfl, p_gskip rfl rfl (decide_eq_false (by omega)) rfl, p_gskip rfl rfl (decide_eq_false (by omega)) rfl, p_gskip rfl rfl (decide_eq_false (by omega)) rfl, p_gskip rfl rfl (decide_eq_false (by omega)) rfl, p_gskip rfl rfl (decide_eq_false (by omega)) rfl, p_gskip rfl rfl (decide_eq_false (by omega)) rfl, p_gskip rfl rfl (decide_eq_false (by omega)) rfl, p_pickF rfl (decide_eq_false (by omega)) rfl rfl, p_assign rfl rfl, trivial⟩ rfl ?_
    refine w_ (p_assign rfl rfl) ?_
    refine aw_nil ?_
    have hk : k = l.length := by omega
    have hpos := pos_eq hp1 (.inl hk)
    have hhas : has l id = false := by unfold has; rw [hpos, List.getElem?_eq_none (by omega)]
    refine ac_ret ?_
    exact retB_2 Tryz.results203 (rv_tmp rfl rfl) (rv_tmp rfl rfl) (by rw [hpos, hhas])

theorem d_crowd_List {l : List Pt} : Does Tryz.prog 197 [.agg [pts l]] (.one (pts l)) := by
  refine does_ (n := 5) Tryz.func197 rfl Tryz.ntmps197 rfl ?_
  refine ac_seq ?_
  refine ac_reg ?_
  refine w_ (p_boxS rfl rfl rfl rfl) ?_
  refine w_ (p_assign rfl rfl) ?_
  refine aw_nil ?_
  refine ac_seq ?_
  refine ac_reg ?_
  refine w_ (p_fieldSh fa_106_0 rfl rfl rfl) ?_
  refine w_ (p_loadSh Tryz.isAgg22 Tryz.sizeOf22 rfl rfl rfl rfl) ?_
  refine w_ (p_assign rfl rfl) ?_
  refine aw_nil ?_
  refine ac_ret ?_
  exact retB_1 Tryz.results197 (rv_tmp rfl rfl) (rfl)

theorem d_crowd_Put {lx ly : List (List LV)} {px py : List Int} {b : Bool} {ll : List Nat} {d id : Int} {l : List Pt} (hx : IsInts lx px) (hy : IsInts ly py) (hd : IsInt (.bool b) (u32r ll) d) (hk : Cs 4294967294 1073741824 (Crv.mk px py d)) (hl : l.length ≤ 1000000) : Does Tryz.prog 119 [.agg [pts l], .agg [.row lx, .row ly, .bool b, u32r ll, .int .i64 id]] (.tup [.agg [pts ((if putE l (Pt.mk (Crv.norm (Crv.mk px py d)) id) = 0 then put l (Pt.mk (Crv.norm (Crv.mk px py d)) id) else l))], .one (.int .i64 (putE l (Pt.mk (Crv.norm (Crv.mk px py d)) id)))]) := by
  refine does_ (n := 42) Tryz.func119 rfl Tryz.ntmps119 rfl ?_
  have hpl := pos_le l id
  have htl : (l.take (pos l id)).length = pos l id := by rw [List.length_take]; omega
  have hdl : (l.drop (pos l id)).length = l.length - pos l id := List.length_drop ..
  by_cases h1 : has l id = true
  · skip
    refine ac_seq ?_
    refine ac_reg ?_
    refine w_ (p_boxS rfl rfl rfl rfl) ?_
    refine w_ (p_boxS rfl rfl rfl rfl) ?_
    refine a_alloc Tryz.zeroValue106 rfl rfl fun g1 => ?_
    refine w_ (p_assign rfl rfl) ?_
    refine aw_nil ?_
    refine ac_seq ?_
    refine ac_reg ?_
    refine w_ (p_loadSh Tryz.isAgg106 Tryz.sizeOf106 rfl rfl rfl rfl) ?_
    refine w_ (p_fieldSh fa_76_1 rfl rfl rfl) ?_
    refine w_ (p_loadSh Tryz.isAgg3 Tryz.sizeOf3 rfl rfl rfl rfl) ?_
    refine w_ (p_call Tryz.func203 rfl rfl rfl rfl (d_crowd_at (by omega)) rfl) ?_
    refine w_ (p_move rfl rfl) ?_
    refine w_ (p_extract rfl rfl rfl) ?_
    refine w_ (p_extract rfl rfl rfl) ?_
    refine w_ (p_assign rfl rfl) ?_
    refine w_ (p_assign rfl rfl) ?_
    refine aw_nil ?_
    refine ac_seq ?_
    refine ac_block ?_
    refine ac_seq ?_
    refine ac_reg ?_
    refine w_ (p_move rfl rfl) ?_
    refine w_ (p_assign rfl rfl) ?_
    refine aw_nil ?_
    refine ac_t rfl (h1) ?_
    refine ac_seq ?_
    refine ac_reg ?_
    refine w_ (p_loadSh Tryz.isAgg106 Tryz.sizeOf106 rfl rfl rfl rfl) ?_
    refine a_storeOw 0 Tryz.sizeOf106 rfl rfl rfl rfl rfl rfl rfl ?_
    refine w_ (p_assign rfl rfl) ?_
    refine aw_nil ?_
    have he : putE l (Pt.mk (Crv.norm (Crv.mk px py d)) id) = 6 := by unfold putE; rw [if_pos h1]
    refine ac_ret ?_
    exact retB_2 Tryz.results119 (rv_cell 0 Tryz.isAgg106 Tryz.sizeOf106 rfl rfl rfl rfl rfl) (rv_tmp rfl rfl) (by rw [he]; rfl)
  · replace h1 : has l id = false := by simpa using h1
    by_cases h2 : 6 ≤ l.length
    · skip
      refine ac_seq ?_
      refine ac_reg ?_
      refine w_ (p_boxS rfl rfl rfl rfl) ?_
      refine w_ (p_boxS rfl rfl rfl rfl) ?_
      refine a_alloc Tryz.zeroValue106 rfl rfl fun g2 => ?_
      refine w_ (p_assign rfl rfl) ?_
      refine aw_nil ?_
      refine ac_seq ?_
      refine ac_reg ?_
      refine w_ (p_loadSh Tryz.isAgg106 Tryz.sizeOf106 rfl rfl rfl rfl) ?_
      refine w_ (p_fieldSh fa_76_1 rfl rfl rfl) ?_
      refine w_ (p_loadSh Tryz.isAgg3 Tryz.sizeOf3 rfl rfl rfl rfl) ?_
      refine w_ (p_call Tryz.func203 rfl rfl rfl rfl (d_crowd_at (by omega)) rfl) ?_
      refine w_ (p_move rfl rfl) ?_
      refine w_ (p_extract rfl rfl rfl) ?_
      refine w_ (p_extract rfl rfl rfl) ?_
      refine w_ (p_assign rfl rfl) ?_
      refine w_ (p_assign rfl rfl) ?_
      refine aw_nil ?_
      refine ac_seq ?_
      refine ac_block ?_
      refine ac_seq ?_
      refine ac_reg ?_
      refine w_ (p_move rfl rfl) ?_
      refine w_ (p_assign rfl rfl) ?_
      refine aw_nil ?_
      refine ac_f rfl (h1) ?_
      refine ac_seq ?_
      refine ac_reg ?_
      refine w_ (p_fieldSh fa_106_0 rfl rfl rfl) ?_
      refine w_ (p_loadSh Tryz.isAgg22 Tryz.sizeOf22 rfl rfl rfl rfl) ?_
      refine w_ (p_len (m := l.length) Tryz.runUnderlying22 rfl (rlen_pts _) rfl) ?_
      refine w_ (p_cmp rfl rfl rfl rfl) ?_
      refine w_ (p_assign rfl rfl) ?_
      refine aw_nil ?_
      refine ac_t rfl (decide_eq_true (by omega)) ?_
      refine ac_seq ?_
      refine ac_reg ?_
      refine w_ (p_loadSh Tryz.isAgg106 Tryz.sizeOf106 rfl rfl rfl rfl) ?_
      refine a_storeOw 0 Tryz.sizeOf106 rfl rfl rfl rfl rfl rfl rfl ?_
      refine w_ (p_assign rfl rfl) ?_
      refine aw_nil ?_
      have he : putE l (Pt.mk (Crv.norm (Crv.mk px py d)) id) = 9 := by unfold putE; rw [if_neg (by rw [h1]; decide), if_pos h2]
      refine ac_ret ?_
      exact retB_2 Tryz.results119 (rv_cell 0 Tryz.isAgg106 Tryz.sizeOf106 rfl rfl rfl rfl rfl) (rv_tmp rfl rfl) (by rw [he]; rfl)
    · skip
      refine ac_seq ?_
      refine ac_reg ?_
      refine w_ (p_boxS rfl rfl rfl rfl) ?_
      refine w_ (p_boxS rfl rfl rfl rfl) ?_
      refine a_alloc Tryz.zeroValue106 rfl rfl fun g3 => ?_
      refine w_ (p_assign rfl rfl) ?_
      refine aw_nil ?_
      refine ac_seq ?_
      refine ac_reg ?_
      refine w_ (p_loadSh Tryz.isAgg106 Tryz.sizeOf106 rfl rfl rfl rfl) ?_
      refine w_ (p_fieldSh fa_76_1 rfl rfl rfl) ?_
      refine w_ (p_loadSh Tryz.isAgg3 Tryz.sizeOf3 rfl rfl rfl rfl) ?_
      refine w_ (p_call Tryz.func203 rfl rfl rfl rfl (d_crowd_at (by omega)) rfl) ?_
      refine w_ (p_move rfl rfl) ?_
      refine w_ (p_extract rfl rfl rfl) ?_
      refine w_ (p_extract rfl rfl rfl) ?_
      refine w_ (p_assign rfl rfl) ?_
      refine w_ (p_assign rfl rfl) ?_
      refine aw_nil ?_
      refine ac_seq ?_
      refine ac_block ?_
      refine ac_seq ?_
      refine ac_reg ?_
      refine w_ (p_move rfl rfl) ?_
      refine w_ (p_assign rfl rfl) ?_
      refine aw_nil ?_
      refine ac_f rfl (h1) ?_
      refine ac_seq ?_
      refine ac_reg ?_
      refine w_ (p_fieldSh fa_106_0 rfl rfl rfl) ?_
      refine w_ (p_loadSh Tryz.isAgg22 Tryz.sizeOf22 rfl rfl rfl rfl) ?_
      refine w_ (p_len (m := l.length) Tryz.runUnderlying22 rfl (rlen_pts _) rfl) ?_
      refine w_ (p_cmp rfl rfl rfl rfl) ?_
      refine w_ (p_assign rfl rfl) ?_
      refine aw_nil ?_
      refine ac_f rfl (decide_eq_false (by omega)) ?_
      refine ac_skip ?_
      refine ac_seq ?_
      refine ac_reg ?_
      refine w_ (p_fieldSh fa_106_0 rfl rfl rfl) ?_
      refine w_ (p_loadSh Tryz.isAgg22 Tryz.sizeOf22 rfl rfl rfl rfl) ?_
      refine w_ (p_move rfl rfl) ?_
      refine w_ (p_sliceHi (pos l id) Tryz.runUnderlying22 Tryz.sizeOf76 rfl rfl rfl (by rw [List.length_map]; exact pos_le l id) (map_w l (fun _ => rfl)) (l' := (l.take (pos l id)).map ofPt) (by rw [List.map_take]) rfl) ?_
      refine a_appendN (ls2 := (l.take (pos l id)).map ofPt) (m2 := (l.take (pos l id)).length) Tryz.runUnderlying22 Tryz.runUnderlying22 Tryz.typeInfo76 rfl rfl Tryz.sizeOf76 Tryz.zeroValue76 rfl rfl rfl rfl rfl rfl rfl (map_w _ (fun _ => rfl)) (map_f _ (fun _ => rfl)) (by rw [List.length_map]; omega) (rfl) (List.length_map _) fun r4 => ?_
      refine w_ (p_assign rfl rfl) ?_
      refine aw_nil ?_
      refine ac_seq ?_
      refine ac_reg ?_
      refine w_ (p_move rfl rfl) ?_
      refine w_ (p_loadSh Tryz.isAgg76 Tryz.sizeOf76 rfl rfl rfl rfl) ?_
      refine w_ (p_call Tryz.func204 rfl rfl rfl rfl (d_crowd_fresh hx hy hd (hk)) rfl) ?_
      refine w_ (p_lit Tryz.runUnderlying22 Tryz.sizeOf76 Tryz.zeroValue76 rfl rfl rfl rfl rfl rfl rfl rfl rfl rfl) ?_
      refine a_append (ls2 := (l.take (pos l id) ++ [(Pt.mk (Crv.norm (Crv.mk px py d)) id)]).map ofPt) (m2 := (l.take (pos l id)).length + 1) 0 Tryz.runUnderlying22 Tryz.runUnderlying22 Tryz.typeInfo76 rfl rfl Tryz.sizeOf76 Tryz.zeroValue76 rfl rfl rfl rfl rfl rfl rfl (by rw [List.length_map]; omega) (one_w rfl) (one_f rfl) (by show _ + 1 < _; omega) (by rw [List.take_of_length_le (by rw [List.length_map]; omega), List.map_append]; rfl) (rfl) fun r5 => ?_
      refine w_ (p_assign rfl rfl) ?_
      refine aw_nil ?_
      refine ac_seq ?_
      refine ac_reg ?_
      refine w_ (p_move rfl rfl) ?_
      refine w_ (p_fieldSh fa_106_0 rfl rfl rfl) ?_
      refine w_ (p_loadSh Tryz.isAgg22 Tryz.sizeOf22 rfl rfl rfl rfl) ?_
      refine w_ (p_move rfl rfl) ?_
      refine w_ (p_sliceLo (pos l id) Tryz.runUnderlying22 Tryz.sizeOf76 rfl rfl rfl (by rw [List.length_map]; exact pos_le l id) (map_w l (fun _ => rfl)) (l' := (l.drop (pos l id)).map ofPt) (by rw [List.map_drop]) rfl) ?_
      refine a_append (ls2 := (put l (Pt.mk (Crv.norm (Crv.mk px py d)) id)).map ofPt) (m2 := (l.take (pos l id)).length + 1 + (l.drop (pos l id)).length) 0 Tryz.runUnderlying22 Tryz.runUnderlying22 Tryz.typeInfo76 rfl rfl Tryz.sizeOf76 Tryz.zeroValue76 rfl rfl rfl rfl rfl rfl rfl (by rw [List.length_map, List.length_append]; exact Nat.le_refl _) (map_w _ (fun _ => rfl)) (map_f _ (fun _ => rfl)) (by rw [List.length_map]; omega) (by rw [List.take_of_length_le (by rw [List.length_map, List.length_append]; exact Nat.le_refl _), ← List.map_append, List.append_assoc]; rfl) (by rw [List.length_map]) fun r6 => ?_
      refine aw_pub 0 [40] rfl (allAre1 rfl) (by rw [List.length_map, put_len]; omega) (by rw [List.length_map, put_len]; omega) rfl ?_
      refine w_ (p_build (bd_106) rfl rfl rfl rfl) ?_
      refine a_storeOw 0 Tryz.sizeOf106 rfl rfl rfl rfl rfl rfl rfl ?_
      refine w_ (p_assign rfl rfl) ?_
      refine aw_nil ?_
      have he : putE l (Pt.mk (Crv.norm (Crv.mk px py d)) id) = 0 := by unfold putE; rw [if_neg (by rw [h1]; decide), if_neg h2]
      refine ac_ret ?_
      exact retB_2 Tryz.results119 (rv_cell 0 Tryz.isAgg106 Tryz.sizeOf106 rfl rfl rfl rfl rfl) (rv_tmp rfl rfl) (by rw [he]; rfl)

theorem newL_len : ∀ (qs : List Pt), (newL [] qs).1.length ≤ qs.length := by
  have key : ∀ (qs acc : List Pt), (newL acc qs).1.length ≤ acc.length + qs.length := by
    intro qs
    induction qs with
    | nil => intro acc; simp [newL]
    | cons q qs ih =>
      intro acc
      simp only [newL]
      split
      · have := ih (put acc q); rw [put_len] at this; simp only [List.length_cons]; omega
      · simp
  intro qs
  have := key qs []
  simpa using this

theorem d_crowd_New {zs : List (List LV)} {qs : List Pt} (hz : IsPts 4294967294 1073741824 zs qs) (hl : qs.length ≤ 6) : Does Tryz.prog 114 [.one (.row zs)] (.tup [.agg [pts ((newL [] qs).1)], .one (.int .i64 ((newL [] qs).2))]) := by
  refine does_ (n := 30) Tryz.func114 rfl Tryz.ntmps114 rfl ?_
  refine ac_seq ?_
  refine ac_reg ?_
  refine a_alloc Tryz.zeroValue106 rfl rfl fun g1 => ?_
  refine w_ (p_assign rfl rfl) ?_
  refine aw_nil ?_
  refine ac_seq ?_
  refine ac_seq ?_
  refine ac_reg ?_
  refine w_ (p_move rfl rfl) ?_
  refine w_ (p_len (m := qs.length) Tryz.runUnderlying22 rfl (by simp only [rlen]; rw [hz.len]) rfl) ?_
  refine w_ (p_cmp rfl rfl rfl rfl) ?_
  refine aw_nil ?_
  refine ac_f rfl (decide_eq_false (by omega)) ?_
  refine ac_skip ?_
  refine ac_seq ?_
  refine ac_reg ?_
  refine a_alloc Tryz.zeroValue106 rfl rfl fun g2 => ?_
  refine aw_nil ?_
  refine ac_seq ?_
  refine ac_seq ?_
  refine ac_reg ?_
  refine w_ (p_move rfl rfl) ?_
  refine w_ (p_len (m := qs.length) Tryz.runUnderlying22 rfl (by simp only [rlen]; rw [hz.len]) rfl) ?_
  refine w_ (p_move rfl rfl) ?_
  refine aw_nil ?_
  refine ac_block ?_
  refine ac_blk (ys := [pts ((newL [] (qs.take 0)).1)]) 0 rfl rfl rfl ?_
  refine ac_pick [2, 3, 4, 12, 13, 14] rfl ?_
  refine ac_loop (fun m L B => ∃ i, i ≤ qs.length ∧ (newL [] (qs.take i)).2 = 0 ∧ m = qs.length - i ∧ L = [(2, .one (.ow g1 0)), (3, .one (.int .i64 0)), (4, .one (.ow g2 0)), (12, .one (.row zs)), (13, .one (.int .i64 (((qs.length : Nat) : Int)))), (14, .one (.int .i64 ((i : Int))))] ∧ B = [.blk g2 106 [pts ((newL [] (qs.take i)).1)], .blk g1 106 [.nils]]) (m := _) ⟨0, Nat.zero_le _, rfl, rfl, rfl, rfl⟩ ?_
  rintro m L B ⟨i, hp0, hp1, hm, rfl, rfl⟩
  by_cases hlt : i < qs.length
  · have hqi : qs[i]? = some qs[i] := List.getElem?_eq_getElem hlt
    obtain ⟨z, hz, lx, ly, b, ll, px, py, d, rfl, hx, hy, hd, hk, hc⟩ := hz.get hqi
    have hq : (Pt.mk (Crv.norm (Crv.mk px py d)) qs[i].id) = qs[i] := by rw [← hc]
    have hst := newL_step [] qs hqi (by rw [← hp1])
    have hnl := newL_len (qs.take i)
    rw [List.length_take, Nat.min_eq_left hp0] at hnl
    by_cases he : putE (newL [] (qs.take i)).1 (Pt.mk (Crv.norm (Crv.mk px py d)) qs[i].id) = 0
    · have hstep : (newL [] (qs.take (i + 1))).1 = put (newL [] (qs.take i)).1 (Pt.mk (Crv.norm (Crv.mk px py d)) qs[i].id) := by rw [hst, ← hq, if_pos he]
      have hst2 : (newL [] (qs.take (i + 1))).2 = 0 := by rw [hst, ← hq, if_pos he]
      refine ac_seq ?_
      refine ac_reg ?_
      refine w_ (p_cmp rfl rfl rfl rfl) ?_
      refine aw_nil ?_
      refine ac_seq ?_
      refine ac_t rfl (decide_eq_true (by omega)) ?_
      refine ac_skip ?_
      refine ac_seq ?_
      refine ac_block ?_
      refine ac_seq ?_
      refine ac_reg ?_
      refine w_ (p_index (i) Tryz.runUnderlying22 Tryz.sizeOf76 rfl rfl (rfl) (hz) rfl rfl) ?_
      refine w_ (p_loadSh Tryz.isAgg76 Tryz.sizeOf76 rfl rfl rfl rfl) ?_
      refine a_alloc Tryz.zeroValue76 rfl rfl fun g3 => ?_
      refine a_storeOw 0 Tryz.sizeOf76 rfl rfl rfl rfl rfl rfl rfl ?_
      refine aw_nil ?_
      refine ac_seq ?_
      refine ac_reg ?_
      refine w_ (p_assign rfl rfl) ?_
      refine aw_nil ?_
      refine ac_seq ?_
      refine ac_reg ?_
      refine w_ (p_loadOw 1 Tryz.isAgg106 Tryz.sizeOf106 rfl rfl rfl rfl rfl) ?_
      refine w_ (p_loadOw 0 Tryz.isAgg76 Tryz.sizeOf76 rfl rfl rfl rfl rfl) ?_
      refine w_ (p_call Tryz.func119 rfl rfl rfl rfl (d_crowd_Put hx hy hd (hk) (by omega)) rfl) ?_
      refine w_ (p_move rfl rfl) ?_
      refine w_ (p_extract rfl rfl rfl) ?_
      refine w_ (p_extract rfl rfl rfl) ?_
      refine a_storeOw 1 Tryz.sizeOf106 rfl rfl rfl rfl rfl rfl rfl ?_
      refine w_ (p_assign rfl rfl) ?_
      refine aw_nil ?_
      refine ac_seq ?_
      refine ac_reg ?_
      refine w_ (p_move rfl rfl) ?_
      refine w_ (p_cmp rfl rfl rfl rfl) ?_
      refine aw_nil ?_
      refine ac_f rfl (decide_eq_false (fun h => h he)) ?_
      refine ac_skip ?_
      refine ac_reg ?_
      refine w_ (p_add (r := ((i + 1 : Nat) : Int)) rfl rfl (i64_is (by omega) (by omega)) rfl) ?_
      refine w_ (p_move rfl rfl) ?_
      refine aw_blk (ys := [pts ((newL [] (qs.take (i + 1))).1)]) 1 rfl rfl (by rw [if_pos he, hstep]) ?_
      refine aw_pick [2, 3, 4, 12, 13, 14] rfl ?_
      refine aw_drop 1 rfl ?_
      refine aw_nil ?_
      refine ⟨_, ?_, i + 1, by omega, hst2, rfl, rfl, rfl⟩
      omega
    · have herr : newL [] qs = ([], putE (newL [] (qs.take i)).1 (Pt.mk (Crv.norm (Crv.mk px py d)) qs[i].id)) := newL_err [] qs he (by rw [hst, ← hq, if_neg he])
      refine ac_seq ?_
      refine ac_reg ?_
      refine w_ (p_cmp rfl rfl rfl rfl) ?_
      refine aw_nil ?_
      refine ac_seq ?_
      refine ac_t rfl (decide_eq_true (by omega)) ?_
      refine ac_skip ?_
      refine ac_seq ?_
      refine ac_block ?_
      refine ac_seq ?_
      refine ac_reg ?_
      refine w_ (p_index (i) Tryz.runUnderlying22 Tryz.sizeOf76 rfl rfl (rfl) (hz) rfl rfl) ?_
      refine w_ (p_loadSh Tryz.isAgg76 Tryz.sizeOf76 rfl rfl rfl rfl) ?_
      refine a_alloc Tryz.zeroValue76 rfl rfl fun g4 => ?_
      refine a_storeOw 0 Tryz.sizeOf76 rfl rfl rfl rfl rfl rfl rfl ?_
      refine aw_nil ?_
      refine ac_seq ?_
      refine ac_reg ?_
      refine w_ (p_assign rfl rfl) ?_
      refine aw_nil ?_
      refine ac_seq ?_
      refine ac_reg ?_
      refine w_ (p_loadOw 1 Tryz.isAgg106 Tryz.sizeOf106 rfl rfl rfl rfl rfl) ?_
      refine w_ (p_loadOw 0 Tryz.isAgg76 Tryz.sizeOf76 rfl rfl rfl rfl rfl) ?_
      refine w_ (p_call Tryz.func119 rfl rfl rfl rfl (d_crowd_Put hx hy hd (hk) (by omega)) rfl) ?_
      refine w_ (p_move rfl rfl) ?_
      refine w_ (p_extract rfl rfl rfl) ?_
      refine w_ (p_extract rfl rfl rfl) ?_
      refine a_storeOw 1 Tryz.sizeOf106 rfl rfl rfl rfl rfl rfl rfl ?_
      refine w_ (p_assign rfl rfl) ?_
      refine aw_nil ?_
      refine ac_seq ?_
      refine ac_reg ?_
      refine w_ (p_move rfl rfl) ?_
      refine w_ (p_cmp rfl rfl rfl rfl) ?_
      refine aw_nil ?_
      refine ac_t rfl (decide_eq_true he) ?_
      refine ac_seq ?_
      refine ac_reg ?_
      refine w_ (p_build (bd_106) rfl rfl rfl rfl) ?_
      refine w_ (p_move rfl rfl) ?_
      refine a_storeOw 2 Tryz.sizeOf106 rfl rfl rfl rfl rfl rfl rfl ?_
      refine w_ (p_assign rfl rfl) ?_
      refine aw_nil ?_
      refine ac_ret ?_
      exact retB_2 Tryz.results114 (rv_cell 2 Tryz.isAgg106 Tryz.sizeOf106 rfl rfl rfl rfl rfl) (rv_tmp rfl rfl) (by rw [herr]; rfl)
  · skip
    refine ac_seq ?_
    refine ac_reg ?_
    refine w_ (p_cmp rfl rfl rfl rfl) ?_
    refine aw_nil ?_
    refine ac_seq ?_
    refine ac_f rfl (decide_eq_false (by omega)) ?_
    refine ac_exit ?_
    repeat refine seqQ_exit ?_
    refine blkQ_here ?_
    refine ac_seq ?_
    refine ac_reg ?_
    refine w_ (p_loadOw 0 Tryz.isAgg106 Tryz.sizeOf106 rfl rfl rfl rfl rfl) ?_
    refine a_storeOw 1 Tryz.sizeOf106 rfl rfl rfl rfl rfl rfl rfl ?_
    refine w_ (p_assign rfl rfl) ?_
    refine aw_nil ?_
    have hi : qs.take i = qs := List.take_of_length_le (by omega)
    rw [hi] at hp1
    refine ac_ret ?_
    exact retB_2 Tryz.results114 (rv_cell 1 Tryz.isAgg106 Tryz.sizeOf106 rfl rfl rfl rfl rfl) (rv_tmp rfl rfl) (by rw [hi, hp1])

theorem d_crowd_NewFull {zs : List (List LV)} {qs : List Pt} (hz : IsPts 4294967294 1073741824 zs qs) (hl : 6 < qs.length) : Does Tryz.prog 114 [.one (.row zs)] (.tup [.agg [pts ([])], .one (.int .i64 9)]) := by
  refine does_ (n := 30) Tryz.func114 rfl Tryz.ntmps114 rfl ?_
  refine ac_seq ?_
  refine ac_reg ?_
  refine a_alloc Tryz.zeroValue106 rfl rfl fun g1 => ?_
  refine w_ (p_assign rfl rfl) ?_
  refine aw_nil ?_
  refine ac_seq ?_
  refine ac_seq ?_
  refine ac_reg ?_
  refine w_ (p_move rfl rfl) ?_
  refine w_ (p_len (m := qs.length) Tryz.runUnderlying22 rfl (by simp only [rlen]; rw [hz.len]) rfl) ?_
  refine w_ (p_cmp rfl rfl rfl rfl) ?_
  refine aw_nil ?_
  refine ac_t rfl (decide_eq_true (by omega)) ?_
  refine ac_seq ?_
  refine ac_reg ?_
  refine w_ (p_build (bd_106) rfl rfl rfl rfl) ?_
  refine a_storeOw 0 Tryz.sizeOf106 rfl rfl rfl rfl rfl rfl rfl ?_
  refine w_ (p_assign rfl rfl) ?_
  refine aw_nil ?_
  refine ac_ret ?_
  exact retB_2 Tryz.results114 (rv_cell 0 Tryz.isAgg106 Tryz.sizeOf106 rfl rfl rfl rfl rfl) (rv_tmp rfl rfl) (rfl)

theorem d_crowd_All {l : List Pt} (hok : ∀ p ∈ l, PtOk 4294967294 1073741824 p) (hl : l.length < 1073741824) : Does Tryz.prog 120 [.agg [pts l]] (.one (pts l)) := by
  refine does_ (n := 20) Tryz.func120 rfl Tryz.ntmps120 rfl ?_
  refine ac_seq ?_
  refine ac_reg ?_
  refine w_ (p_boxS rfl rfl rfl rfl) ?_
  refine w_ (p_assign rfl rfl) ?_
  refine aw_nil ?_
  refine ac_seq ?_
  refine ac_reg ?_
  refine w_ (p_assign rfl rfl) ?_
  refine aw_nil ?_
  refine ac_seq ?_
  refine ac_seq ?_
  refine ac_reg ?_
  refine w_ (p_fieldSh fa_106_0 rfl rfl rfl) ?_
  refine w_ (p_loadSh Tryz.isAgg22 Tryz.sizeOf22 rfl rfl rfl rfl) ?_
  refine w_ (p_len (m := l.length) Tryz.runUnderlying22 rfl (rlen_pts _) rfl) ?_
  refine w_ (p_move rfl rfl) ?_
  refine aw_nil ?_
  refine ac_block ?_
  refine ac_ownNil [3] 76 5 rfl (allAre1 rfl) rfl ?_
  refine ac_pick [3, 7, 8, 9] rfl ?_
  refine ac_loop (fun m L B => ∃ i r, i ≤ l.length ∧ m = l.length - i ∧ L = [(3, .one (.orow r 5 0 i)), (7, .one (pts l)), (8, .one (.int .i64 (((l.length : Nat) : Int)))), (9, .one (.int .i64 ((i : Int))))] ∧ B = [.row r 76 5 ((l.take i).map ofPt)]) (m := _) ⟨0, none, Nat.zero_le _, rfl, rfl, rfl⟩ ?_
  rintro m L B ⟨i, r, hp0, hm, rfl, rfl⟩
  by_cases hlt : i < l.length
  · obtain ⟨p, hp⟩ : ∃ p, l[i]? = some p := ⟨_, List.getElem?_eq_getElem hlt⟩
    have hpk := hok p (List.mem_of_getElem? hp)
    refine ac_seq ?_
    refine ac_reg ?_
    refine w_ (p_cmp rfl rfl rfl rfl) ?_
    refine aw_nil ?_
    refine ac_seq ?_
    refine ac_t rfl (decide_eq_true (by omega)) ?_
    refine ac_skip ?_
    refine ac_seq ?_
    refine ac_block ?_
    refine ac_seq ?_
    refine ac_reg ?_
    refine w_ (p_index (i) Tryz.runUnderlying22 Tryz.sizeOf76 rfl rfl (rfl) (map_get hp) rfl rfl) ?_
    refine w_ (p_loadSh Tryz.isAgg76 Tryz.sizeOf76 rfl rfl rfl rfl) ?_
    refine a_alloc Tryz.zeroValue76 rfl rfl fun g1 => ?_
    refine a_storeOw 0 Tryz.sizeOf76 rfl rfl rfl rfl rfl rfl rfl ?_
    refine aw_nil ?_
    refine ac_reg ?_
    refine w_ (p_move rfl rfl) ?_
    refine w_ (p_loadOw 0 Tryz.isAgg76 Tryz.sizeOf76 rfl rfl rfl rfl rfl) ?_
    refine w_ (p_call Tryz.func204 rfl rfl rfl rfl (d_crowd_freshN (hpk.1) (hpk.2)) rfl) ?_
    refine w_ (p_lit Tryz.runUnderlying22 Tryz.sizeOf76 Tryz.zeroValue76 rfl rfl rfl rfl rfl rfl rfl rfl rfl rfl) ?_
    refine a_append (ls2 := (l.take (i + 1)).map ofPt) (m2 := i + 1) 1 Tryz.runUnderlying22 Tryz.runUnderlying22 Tryz.typeInfo76 rfl rfl Tryz.sizeOf76 Tryz.zeroValue76 rfl rfl rfl rfl rfl rfl rfl (by rw [List.length_map, List.length_take]; omega) (one_w rfl) (one_f rfl) (by show _ + 1 < _; omega) (by rw [List.take_of_length_le (by rw [List.length_map, List.length_take]; omega), List.take_add_one, hp, List.map_append]; rfl) (rfl) fun r2 => ?_
    refine w_ (p_assign rfl rfl) ?_
    refine aw_nil ?_
    refine ac_reg ?_
    refine w_ (p_add (r := ((i + 1 : Nat) : Int)) rfl rfl (i64_is (by omega) (by omega)) rfl) ?_
    refine w_ (p_move rfl rfl) ?_
    refine aw_pick [3, 7, 8, 9] rfl ?_
    refine aw_drop 1 rfl ?_
    refine aw_nil ?_
    refine ⟨_, ?_, i + 1, _, by omega, rfl, rfl, rfl⟩
    omega
  · have hi : l.take i = l := List.take_of_length_le (by omega)
    refine ac_seq ?_
    refine ac_reg ?_
    refine w_ (p_cmp rfl rfl rfl rfl) ?_
    refine aw_nil ?_
    refine ac_seq ?_
    refine ac_f rfl (decide_eq_false (by omega)) ?_
    refine ac_exit ?_
    repeat refine seqQ_exit ?_
    refine blkQ_here ?_
    refine ac_seq ?_
    refine ac_reg ?_
    refine w_ (p_move rfl rfl) ?_
    refine w_ (p_assign rfl rfl) ?_
    refine aw_nil ?_
    have hl47 := List.length_take_le i l
    refine ac_pub 0 [2] rfl (allAre1 rfl) (by rw [List.length_map, List.length_take]; omega) (by rw [List.length_map]; have := hl47; omega) rfl ?_
    refine ac_ret ?_
    exact retB_1 Tryz.results120 (rv_tmp rfl rfl) (by rw [hi]; rfl)

end Orr

namespace Orr
open Go Go.Proofs
theorem trim_qa (q : Rat) : Trim [-q.num, (q.den : Int)] := by
  unfold Trim
  simp [trim, q.den_nz]
theorem bd_qa {q : Rat} {s : Nat} (h : Qs s q) : Bd s [-q.num, (q.den : Int)] := by
  intro z hz
  simp only [List.mem_cons, List.not_mem_nil, or_false] at hz
  rcases hz with rfl | rfl
  · rw [isz_neg]; exact h.1
  · exact h.2

set_option maxRecDepth 20000 in
theorem d_alg_Of {b1 b2 : Bool} {l1 l2 : List Nat} {n d : Int} (h1 : IsInt (.bool b1) (u32r l1) n) (h2 : IsInt (.bool b2) (u32r l2) d) (hn : isz n ≤ 4294967295) (hd : isz d ≤ 4294967295) (hq : Qs 4294967295 (ratOf n d)) : Does Tryz.prog 115 [.agg [.bool b1, u32r l1, .bool b2, u32r l2]] (.agg [pl ([-((ratOf n d)).num, (((ratOf n d)).den : Int)]), sg ((((ratOf n d))).num), mg ((((ratOf n d))).num), sg (((((ratOf n d))).den : Int)), mg (((((ratOf n d))).den : Int)), sg ((((ratOf n d))).num), mg ((((ratOf n d))).num), sg (((((ratOf n d))).den : Int)), mg (((((ratOf n d))).den : Int))]) := by
  refine does_ (n := 15) Tryz.func115 rfl Tryz.ntmps115 rfl ?_
  refine ac_seq ?_
  refine ac_reg ?_
  refine a_box rfl rfl rfl fun g1 => ?_
  refine a_alloc Tryz.zeroValue59 rfl rfl fun g2 => ?_
  refine aw_nil ?_
  refine ac_seq ?_
  refine ac_reg ?_
  refine w_ (p_loadOw 1 Tryz.isAgg57 Tryz.sizeOf57 rfl rfl rfl rfl rfl) ?_
  refine w_ (p_call Tryz.func193 rfl rfl rfl rfl (d_ratio_Max h1 h2 hn hd) rfl) ?_
  refine a_storeOw 1 Tryz.sizeOf57 rfl rfl rfl rfl rfl rfl rfl ?_
  refine aw_nil ?_
  refine ac_seq ?_
  refine ac_draw mixed_ 9 [5, 6, 7, 8, 9, 10, 11, 12, 13] [[], [0], [1], [], [3], [2, 4], [], [], [7]] [.one (.ow g1 0), .agg [sg (((ratOf n d)).num), mg (((ratOf n d)).num)], .agg [sg (-(((ratOf n d)).num)), mg (-(((ratOf n d)).num))], .one (.ow g1 2), .agg [sg ((((ratOf n d)).den : Int)), mg ((((ratOf n d)).den : Int))], .one (.row [[sg (-(((ratOf n d)).num)), mg (-(((ratOf n d)).num))], [sg ((((ratOf n d)).den : Int)), mg ((((ratOf n d)).den : Int))]]), .agg [sg (((ratOf n d)).num), mg (((ratOf n d)).num), sg ((((ratOf n d)).den : Int)), mg ((((ratOf n d)).den : Int))], .agg [sg (((ratOf n d)).num), mg (((ratOf n d)).num), sg ((((ratOf n d)).den : Int)), mg ((((ratOf n d)).den : Int))], .agg [sg (((ratOf n d)).num), mg (((ratOf n d)).num), sg ((((ratOf n d)).den : Int)), mg ((((ratOf n d)).den : Int))]] rfl rfl rfl ⟨p_fieldOw fa_57_0 rfl rfl, p_loadOw 1 Tryz.isAgg55 Tryz.sizeOf55 rfl rfl rfl rfl rfl, p_call Tryz.func194 rfl rfl rfl rfl (d_whole_Neg (isInt_n _) (hq.1)) rfl, p_fieldOw fa_57_1 rfl rfl, p_loadOw 1 Tryz.isAgg55 Tryz.sizeOf55 rfl rfl rfl rfl rfl, p_lit Tryz.runUnderlying52 Tryz.sizeOf55 Tryz.zeroValue55 rfl rfl rfl rfl rfl rfl rfl rfl rfl rfl, p_loadOw 1 Tryz.isAgg57 Tryz.sizeOf57 rfl rfl rfl rfl rfl, p_loadOw 1 Tryz.isAgg57 Tryz.sizeOf57 rfl rfl rfl rfl rfl, p_call Tryz.func193 rfl rfl rfl rfl (d_ratio_Max1 hq) rfl, trivial⟩ rfl ?_
  refine w_ (p_build (bd_59) rfl rfl rfl rfl) ?_
  refine a_storeOw 0 Tryz.sizeOf59 rfl rfl rfl rfl rfl rfl rfl ?_
  refine aw_nil ?_
  refine ac_ret ?_
  exact retB_1 Tryz.results115 (rv_cell 0 Tryz.isAgg59 Tryz.sizeOf59 rfl rfl rfl rfl rfl) (rfl)

set_option maxRecDepth 20000 in
theorem d_alg_normQ {q : Rat} (hq : Qs 4294967295 q) : Does Tryz.prog 239 [.agg [pl ([-q.num, (q.den : Int)]), sg q.num, mg q.num, sg ((q.den : Int)), mg ((q.den : Int)), sg q.num, mg q.num, sg ((q.den : Int)), mg ((q.den : Int))]] (.agg [pl ([-q.num, (q.den : Int)]), sg q.num, mg q.num, sg ((q.den : Int)), mg ((q.den : Int)), sg q.num, mg q.num, sg ((q.den : Int)), mg ((q.den : Int))]) := by
  refine does_ (n := 13) Tryz.func239 rfl Tryz.ntmps239 rfl ?_
  refine ac_seq ?_
  refine ac_reg ?_
  refine w_ (p_boxS rfl rfl rfl rfl) ?_
  refine a_alloc Tryz.zeroValue59 rfl rfl fun g1 => ?_
  refine aw_nil ?_
  refine ac_seq ?_
  refine ac_draw mixed_ 8 [3, 4, 5, 6, 7, 8, 9, 10] [[], [0], [1], [], [3], [4], [], [6]] [.one (.sh [pl ([-q.num, (q.den : Int)]), sg q.num, mg q.num, sg ((q.den : Int)), mg ((q.den : Int)), sg q.num, mg q.num, sg ((q.den : Int)), mg ((q.den : Int))]), .one (pl ([-q.num, (q.den : Int)])), .one (pl ([-q.num, (q.den : Int)])), .one (.sh [sg q.num, mg q.num, sg ((q.den : Int)), mg ((q.den : Int)), sg q.num, mg q.num, sg ((q.den : Int)), mg ((q.den : Int))]), .agg [sg q.num, mg q.num, sg ((q.den : Int)), mg ((q.den : Int))], .agg [sg q.num, mg q.num, sg ((q.den : Int)), mg ((q.den : Int))], .one (.sh [sg q.num, mg q.num, sg ((q.den : Int)), mg ((q.den : Int))]), .agg [sg q.num, mg q.num, sg ((q.den : Int)), mg ((q.den : Int))]] rfl rfl rfl ⟨p_fieldSh fa_59_0 rfl rfl rfl, p_loadSh Tryz.isAgg52 Tryz.sizeOf52 rfl rfl rfl rfl, p_call Tryz.func189 rfl rfl rfl rfl (d_poly_NormT (trim_qa q) (show 2 < 274877906944 by decide) (bd_qa hq)) rfl, p_fieldSh fa_59_1 rfl rfl rfl, p_loadSh Tryz.isAgg57 Tryz.sizeOf57 rfl rfl rfl rfl, p_call Tryz.func193 rfl rfl rfl rfl (d_ratio_Max1 (hq)) rfl, p_fieldSh fa_59_2 rfl rfl rfl, p_loadSh Tryz.isAgg57 Tryz.sizeOf57 rfl rfl rfl rfl, trivial⟩ rfl ?_
  refine w_ (p_call Tryz.func193 rfl rfl rfl rfl (d_ratio_Max1 (hq)) rfl) ?_
  refine w_ (p_build (bd_59) rfl rfl rfl rfl) ?_
  refine a_storeOw 0 Tryz.sizeOf59 rfl rfl rfl rfl rfl rfl rfl ?_
  refine aw_nil ?_
  refine ac_ret ?_
  exact retB_1 Tryz.results239 (rv_cell 0 Tryz.isAgg59 Tryz.sizeOf59 rfl rfl rfl rfl rfl) (rfl)

theorem d_alg_freshQ {q : Rat} (hq : Qs 4294967295 q) : Does Tryz.prog 315 [.agg [pl ([-q.num, (q.den : Int)]), sg q.num, mg q.num, sg ((q.den : Int)), mg ((q.den : Int)), sg q.num, mg q.num, sg ((q.den : Int)), mg ((q.den : Int))]] (.agg [pl ([-q.num, (q.den : Int)]), sg q.num, mg q.num, sg ((q.den : Int)), mg ((q.den : Int)), sg q.num, mg q.num, sg ((q.den : Int)), mg ((q.den : Int))]) := by
  refine does_ (n := 5) Tryz.func315 rfl Tryz.ntmps315 rfl ?_
  refine ac_seq ?_
  refine ac_reg ?_
  refine w_ (p_boxS rfl rfl rfl rfl) ?_
  refine a_alloc Tryz.zeroValue59 rfl rfl fun g1 => ?_
  refine aw_nil ?_
  refine ac_seq ?_
  refine ac_reg ?_
  refine w_ (p_loadSh Tryz.isAgg59 Tryz.sizeOf59 rfl rfl rfl rfl) ?_
  refine w_ (p_call Tryz.func239 rfl rfl rfl rfl (d_alg_normQ (hq)) rfl) ?_
  refine a_storeOw 0 Tryz.sizeOf59 rfl rfl rfl rfl rfl rfl rfl ?_
  refine aw_nil ?_
  refine ac_ret ?_
  exact retB_1 Tryz.results315 (rv_cell 0 Tryz.isAgg59 Tryz.sizeOf59 rfl rfl rfl rfl rfl) (rfl)

theorem d_alg_pointQ {q : Rat} (hq : Qs 2147483647 q) : Does Tryz.prog 240 [.agg [pl ([-q.num, (q.den : Int)]), sg q.num, mg q.num, sg ((q.den : Int)), mg ((q.den : Int)), sg q.num, mg q.num, sg ((q.den : Int)), mg ((q.den : Int))]] (.one (.bool true)) := by
  refine does_ (n := 9) Tryz.func240 rfl Tryz.ntmps240 rfl ?_
  refine ac_seq ?_
  refine ac_reg ?_
  refine w_ (p_boxS rfl rfl rfl rfl) ?_
  refine w_ (p_assign rfl rfl) ?_
  refine aw_nil ?_
  refine ac_seq ?_
  refine ac_reg ?_
  refine w_ (p_fieldSh fa_59_1 rfl rfl rfl) ?_
  refine w_ (p_loadSh Tryz.isAgg57 Tryz.sizeOf57 rfl rfl rfl rfl) ?_
  refine w_ (p_fieldSh fa_59_2 rfl rfl rfl) ?_
  refine w_ (p_loadSh Tryz.isAgg57 Tryz.sizeOf57 rfl rfl rfl rfl) ?_
  refine w_ (p_call Tryz.func269 rfl rfl rfl rfl (d_ratio_Cmp (hq) (hq)) rfl) ?_
  refine w_ (p_cmp rfl rfl rfl rfl) ?_
  refine w_ (p_assign rfl rfl) ?_
  refine aw_nil ?_
  refine ac_ret ?_
  exact retB_1 Tryz.results240 (rv_tmp rfl rfl) (by rw [cmpQ_self]; rfl)

theorem d_alg_SignQ {p : List Int} {q : Rat} (tp : Trim p) (hl : p.length ≤ 64) (hp : Bd 16780000 p) (hq : Qb q) : Does Tryz.prog 168 [.one (pl p), .agg [pl ([-q.num, (q.den : Int)]), sg q.num, mg q.num, sg ((q.den : Int)), mg ((q.den : Int)), sg q.num, mg q.num, sg ((q.den : Int)), mg ((q.den : Int))]] (.one (.int .i64 (psign p q))) := by
  refine does_ (n := 66) Tryz.func168 rfl Tryz.ntmps168 rfl ?_
  have hmm : p.length * (16777216 + 1) ≤ 64 * (16777216 + 1) := Nat.mul_le_mul_right _ hl
  rcases Nat.eq_zero_or_pos p.length with h0 | h0
  · skip
    refine ac_seq ?_
    refine ac_reg ?_
    refine a_box rfl rfl rfl fun g1 => ?_
    refine w_ (p_assign rfl rfl) ?_
    refine aw_nil ?_
    refine ac_seq ?_
    refine ac_draw mixed_ 3 [8, 9, 10] [[], [0], []] [.one (pl p), .one (pl p), .agg [pl ([-q.num, (q.den : Int)]), sg q.num, mg q.num, sg ((q.den : Int)), mg ((q.den : Int)), sg q.num, mg q.num, sg ((q.den : Int)), mg ((q.den : Int))]] rfl rfl rfl ⟨p_move rfl rfl, p_call Tryz.func189 rfl rfl rfl rfl (d_poly_NormT (tp) (by omega) (bd_mono hp (by omega))) rfl, p_loadOw 0 Tryz.isAgg59 Tryz.sizeOf59 rfl rfl rfl rfl rfl, trivial⟩ rfl ?_
    refine w_ (p_call Tryz.func239 rfl rfl rfl rfl (d_alg_normQ (hq.mono (by omega))) rfl) ?_
    refine w_ (p_assign rfl rfl) ?_
    refine a_storeOw 0 Tryz.sizeOf59 rfl rfl rfl rfl rfl rfl rfl ?_
    refine aw_nil ?_
    refine ac_seq ?_
    refine ac_seq ?_
    refine ac_reg ?_
    refine w_ (p_move rfl rfl) ?_
    refine w_ (p_len (m := p.length) Tryz.runUnderlying52 rfl (rlen_pl _) rfl) ?_
    refine w_ (p_cmp rfl rfl rfl rfl) ?_
    refine aw_nil ?_
    refine ac_t rfl (decide_eq_true (by omega)) ?_
    refine ac_seq ?_
    refine ac_reg ?_
    refine w_ (p_assign rfl rfl) ?_
    refine aw_nil ?_
    refine ac_ret ?_
    exact retB_1 Tryz.results168 (rv_tmp rfl rfl) (by rw [List.eq_nil_of_length_eq_zero h0]; rfl)
  · skip
    refine ac_seq ?_
    refine ac_reg ?_
    refine a_box rfl rfl rfl fun g2 => ?_
    refine w_ (p_assign rfl rfl) ?_
    refine aw_nil ?_
    refine ac_seq ?_
    refine ac_draw mixed_ 3 [8, 9, 10] [[], [0], []] [.one (pl p), .one (pl p), .agg [pl ([-q.num, (q.den : Int)]), sg q.num, mg q.num, sg ((q.den : Int)), mg ((q.den : Int)), sg q.num, mg q.num, sg ((q.den : Int)), mg ((q.den : Int))]] rfl rfl rfl ⟨p_move rfl rfl, p_call Tryz.func189 rfl rfl rfl rfl (d_poly_NormT (tp) (by omega) (bd_mono hp (by omega))) rfl, p_loadOw 0 Tryz.isAgg59 Tryz.sizeOf59 rfl rfl rfl rfl rfl, trivial⟩ rfl ?_
    refine w_ (p_call Tryz.func239 rfl rfl rfl rfl (d_alg_normQ (hq.mono (by omega))) rfl) ?_
    refine w_ (p_assign rfl rfl) ?_
    refine a_storeOw 0 Tryz.sizeOf59 rfl rfl rfl rfl rfl rfl rfl ?_
    refine aw_nil ?_
    refine ac_seq ?_
    refine ac_seq ?_
    refine ac_reg ?_
    refine w_ (p_move rfl rfl) ?_
    refine w_ (p_len (m := p.length) Tryz.runUnderlying52 rfl (rlen_pl _) rfl) ?_
    refine w_ (p_cmp rfl rfl rfl rfl) ?_
    refine aw_nil ?_
    refine ac_f rfl (decide_eq_false (by omega)) ?_
    refine ac_skip ?_
    refine ac_seq ?_
    refine ac_seq ?_
    refine ac_reg ?_
    refine w_ (p_loadOw 0 Tryz.isAgg59 Tryz.sizeOf59 rfl rfl rfl rfl rfl) ?_
    refine w_ (p_call Tryz.func240 rfl rfl rfl rfl (d_alg_pointQ (hq.mono (by omega))) rfl) ?_
    refine aw_nil ?_
    refine ac_t rfl (rfl) ?_
    refine ac_seq ?_
    refine ac_reg ?_
    refine w_ (p_move rfl rfl) ?_
    refine w_ (p_fieldOw fa_59_1 rfl rfl) ?_
    refine w_ (p_loadOw 0 Tryz.isAgg57 Tryz.sizeOf57 rfl rfl rfl rfl rfl) ?_
    refine w_ (p_call Tryz.func241 rfl rfl rfl rfl (d_poly_Sign (tp) (by omega) (hp) (hq) (by omega)) rfl) ?_
    refine w_ (p_assign rfl rfl) ?_
    refine aw_nil ?_
    refine ac_ret ?_
    exact retB_1 Tryz.results168 (rv_tmp rfl rfl) (rfl)

theorem d_germ_At1 {p : List Int} {q : Rat} (tp : Trim p) (hl : p.length ≤ 64) (hp : Bd 16780000 p) (hq : Qb q) : Does Tryz.prog 167 [.one (pl p), .one (.sh [pl ([-q.num, (q.den : Int)]), sg q.num, mg q.num, sg ((q.den : Int)), mg ((q.den : Int)), sg q.num, mg q.num, sg ((q.den : Int)), mg ((q.den : Int))])] (.one (.int .i64 (psign p q))) := by
  refine does_ (n := 7) Tryz.func167 rfl Tryz.ntmps167 rfl ?_
  refine ac_seq ?_
  refine ac_reg ?_
  refine w_ (p_assign rfl rfl) ?_
  refine aw_nil ?_
  refine ac_seq ?_
  refine ac_reg ?_
  refine w_ (p_move rfl rfl) ?_
  refine w_ (p_loadSh Tryz.isAgg59 Tryz.sizeOf59 rfl rfl rfl rfl) ?_
  refine w_ (p_call Tryz.func168 rfl rfl rfl rfl (d_alg_SignQ (tp) (hl) (hp) (hq)) rfl) ?_
  refine w_ (p_assign rfl rfl) ?_
  refine aw_nil ?_
  refine ac_ret ?_
  exact retB_1 Tryz.results167 (rv_tmp rfl rfl) (rfl)

theorem d_germ_first {p : List Int} {fid : Nat} {pre post : List LV} {fn : Func} {sgn : List Int → Int} (hp : Pb p) (hfn : Tryz.prog.funcs[fid]? = some fn) (hnm : (fn.name == "runtime.NumGoroutine") = false) (hbd : fn.body.isNone = false)
    (hf : ∀ p : List Int, Trim p → p.length ≤ 64 → Bd 16780000 p → Does Tryz.prog fid (pre.map .one ++ [.one (pl p)] ++ post.map .one) (.one (.int .i64 (sgn p)))) : Does Tryz.prog 166 [.one (pl p), .one (.fn fid pre post)] (.one (.int .i64 (gfirst sgn p.length p))) := by
  refine does_ (n := 19) Tryz.func166 rfl Tryz.ntmps166 rfl ?_
  refine ac_seq ?_
  refine ac_reg ?_
  refine w_ (p_assign rfl rfl) ?_
  refine aw_nil ?_
  refine ac_seq ?_
  refine ac_seq ?_
  refine ac_reg ?_
  refine w_ (p_move rfl rfl) ?_
  refine w_ (p_call Tryz.func189 rfl rfl rfl rfl (d_poly_NormT (hp.t) (Nat.lt_of_le_of_lt hp.l (by decide)) (bd_mono hp.b (by omega))) rfl) ?_
  refine w_ (p_assign rfl rfl) ?_
  refine aw_nil ?_
  refine ac_block ?_
  refine ac_pick [0, 1] rfl ?_
  refine ac_loop (fun m L B => ∃ p' k, Trim p' ∧ p'.length + k ≤ 64 ∧ Bd (16777216 + 7 * k) p' ∧ gfirst sgn p'.length p' = gfirst sgn p.length p ∧ m = p'.length ∧ L = [(0, .one (pl p')), (1, .one (.fn fid pre post))] ∧ B = []) (m := _) ⟨p, 0, hp.t, hp.l, hp.b, rfl, rfl, rfl, rfl⟩ ?_
  rintro m L B ⟨p', k, hp0, hp1, hp2, hp3, hm, rfl, rfl⟩
  by_cases h0 : 0 < p'.length
  · by_cases hs : sgn p' = 0
    · skip
      refine ac_seq ?_
      refine ac_seq ?_
      refine ac_reg ?_
      refine w_ (p_move rfl rfl) ?_
      refine w_ (p_len (m := p'.length) Tryz.runUnderlying52 rfl (rlen_pl _) rfl) ?_
      refine w_ (p_cmp rfl rfl rfl rfl) ?_
      refine aw_nil ?_
      refine ac_t rfl (decide_eq_true (by omega)) ?_
      refine ac_skip ?_
      refine ac_seq ?_
      refine ac_block ?_
      refine ac_seq ?_
      refine ac_reg ?_
      refine w_ (p_move rfl rfl) ?_
      refine w_ (p_move rfl rfl) ?_
      refine w_ (p_callFn rfl hfn hnm hbd rfl rfl (hf p' hp0 (by omega) (bd_mono hp2 (by omega))) rfl) ?_
      refine w_ (p_assign rfl rfl) ?_
      refine aw_nil ?_
      refine ac_seq ?_
      refine ac_reg ?_
      refine w_ (p_move rfl rfl) ?_
      refine w_ (p_cmp rfl rfl rfl rfl) ?_
      refine aw_nil ?_
      refine ac_f rfl (decide_eq_false (fun h => h hs)) ?_
      refine ac_skip ?_
      refine ac_reg ?_
      refine w_ (p_move rfl rfl) ?_
      refine w_ (p_call Tryz.func238 rfl rfl rfl rfl (d_poly_Derive (by omega) (bd_mono hp2 (by omega))) rfl) ?_
      refine w_ (p_assign rfl rfl) ?_
      refine aw_pick [0, 1] rfl ?_
      refine aw_nil ?_
      refine ⟨_, ?_, pder p', k + 1, each_trim _ _, by have := len_pder p'; omega, bd_mono (bd_pder (t := 7) hp2 (by show p'.length ≤ 128; omega)) (by omega), by rw [← hp3, gfirst_next sgn h0 hs], rfl, rfl, rfl⟩
      have := len_pder p'; omega
    · skip
      refine ac_seq ?_
      refine ac_seq ?_
      refine ac_reg ?_
      refine w_ (p_move rfl rfl) ?_
      refine w_ (p_len (m := p'.length) Tryz.runUnderlying52 rfl (rlen_pl _) rfl) ?_
      refine w_ (p_cmp rfl rfl rfl rfl) ?_
      refine aw_nil ?_
      refine ac_t rfl (decide_eq_true (by omega)) ?_
      refine ac_skip ?_
      refine ac_seq ?_
      refine ac_block ?_
      refine ac_seq ?_
      refine ac_reg ?_
      refine w_ (p_move rfl rfl) ?_
      refine w_ (p_move rfl rfl) ?_
      refine w_ (p_callFn rfl hfn hnm hbd rfl rfl (hf p' hp0 (by omega) (bd_mono hp2 (by omega))) rfl) ?_
      refine w_ (p_assign rfl rfl) ?_
      refine aw_nil ?_
      refine ac_seq ?_
      refine ac_reg ?_
      refine w_ (p_move rfl rfl) ?_
      refine w_ (p_cmp rfl rfl rfl rfl) ?_
      refine aw_nil ?_
      refine ac_t rfl (decide_eq_true hs) ?_
      refine ac_seq ?_
      refine ac_reg ?_
      refine w_ (p_move rfl rfl) ?_
      refine w_ (p_assign rfl rfl) ?_
      refine aw_nil ?_
      refine ac_ret ?_
      exact retB_1 Tryz.results166 (rv_tmp rfl rfl) (by rw [← hp3, gfirst_here sgn h0 hs])
  · skip
    refine ac_seq ?_
    refine ac_seq ?_
    refine ac_reg ?_
    refine w_ (p_move rfl rfl) ?_
    refine w_ (p_len (m := p'.length) Tryz.runUnderlying52 rfl (rlen_pl _) rfl) ?_
    refine w_ (p_cmp rfl rfl rfl rfl) ?_
    refine aw_nil ?_
    refine ac_f rfl (decide_eq_false (by omega)) ?_
    refine ac_exit ?_
    repeat refine seqQ_exit ?_
    refine blkQ_here ?_
    refine ac_seq ?_
    refine ac_reg ?_
    refine w_ (p_assign rfl rfl) ?_
    refine aw_nil ?_
    refine ac_ret ?_
    exact retB_1 Tryz.results166 (rv_tmp rfl rfl) (by rw [← hp3, gfirst_zero sgn (by omega)])

theorem d_germ_AtQ {p : List Int} {q : Rat} (hp : Pb p) (hq : Qb q) : Does Tryz.prog 99 [.one (pl p), .agg [pl ([-q.num, (q.den : Int)]), sg q.num, mg q.num, sg ((q.den : Int)), mg ((q.den : Int)), sg q.num, mg q.num, sg ((q.den : Int)), mg ((q.den : Int))]] (.one (.int .i64 (germAt p q))) := by
  refine does_ (n := 8) Tryz.func99 rfl Tryz.ntmps99 rfl ?_
  refine ac_seq ?_
  refine ac_reg ?_
  refine w_ (p_boxS rfl rfl rfl rfl) ?_
  refine w_ (p_assign rfl rfl) ?_
  refine aw_nil ?_
  refine ac_seq ?_
  refine ac_reg ?_
  refine w_ (p_move rfl rfl) ?_
  refine w_ (p_makeFunc rfl rfl rfl rfl rfl rfl rfl) ?_
  refine w_ (p_call Tryz.func166 rfl rfl rfl rfl (d_germ_first (sgn := fun p => psign p q) hp Tryz.func167 rfl rfl (fun p h1 h2 h3 => d_germ_At1 h1 h2 h3 hq)) rfl) ?_
  refine w_ (p_assign rfl rfl) ?_
  refine aw_nil ?_
  refine ac_ret ?_
  exact retB_1 Tryz.results99 (rv_tmp rfl rfl) (rfl)

theorem d_pred_norm {k : Crv} (hn : Nml k) (hk : Cs 4294967294 1073741824 k) : Does Tryz.prog 170 [.agg [pl k.x, pl k.y, sg k.d, mg k.d]] (.agg [pl k.x, pl k.y, sg k.d, mg k.d]) := by
  refine does_ (n := 22) Tryz.func170 rfl Tryz.ntmps170 rfl ?_
  have h0 : ¬ (k.d = 0) := by have := hn.2.2.1; omega
  · skip
    refine ac_seq ?_
    refine ac_reg ?_
    refine w_ (p_boxS rfl rfl rfl rfl) ?_
    refine a_alloc Tryz.zeroValue74 rfl rfl fun g1 => ?_
    refine aw_nil ?_
    refine ac_seq ?_
    refine ac_reg ?_
    refine w_ (p_fieldSh fa_74_2 rfl rfl rfl) ?_
    refine w_ (p_loadSh Tryz.isAgg55 Tryz.sizeOf55 rfl rfl rfl rfl) ?_
    refine a_alloc Tryz.zeroValue55 rfl rfl fun g2 => ?_
    refine a_storeOw 0 Tryz.sizeOf55 rfl rfl rfl rfl rfl rfl rfl ?_
    refine aw_nil ?_
    refine ac_seq ?_
    refine ac_seq ?_
    refine ac_reg ?_
    refine w_ (p_loadOw 0 Tryz.isAgg55 Tryz.sizeOf55 rfl rfl rfl rfl rfl) ?_
    refine w_ (p_call Tryz.func251 rfl rfl rfl rfl (d_whole_Norm (isInt_n _) (Nat.le_trans hk.d (by omega))) rfl) ?_
    refine w_ (p_call Tryz.func252 rfl rfl rfl rfl ((d_ZeroN _) ) rfl) ?_
    refine aw_nil ?_
    refine ac_f rfl (decide_eq_false h0) ?_
    refine ac_skip ?_
    refine ac_seq ?_
    refine ac_reg ?_
    refine w_ (p_fieldSh fa_74_0 rfl rfl rfl) ?_
    refine w_ (p_loadSh Tryz.isAgg52 Tryz.sizeOf52 rfl rfl rfl rfl) ?_
    refine w_ (p_fieldSh fa_74_1 rfl rfl rfl) ?_
    refine w_ (p_loadSh Tryz.isAgg52 Tryz.sizeOf52 rfl rfl rfl rfl) ?_
    refine w_ (p_loadOw 0 Tryz.isAgg55 Tryz.sizeOf55 rfl rfl rfl rfl rfl) ?_
    refine w_ (p_call Tryz.func253 rfl rfl rfl rfl (d_curve_Make (isInts_n k.x) (isInts_n k.y) (isInt_n k.d) hk h0) rfl) ?_
    refine w_ (p_move rfl rfl) ?_
    refine w_ (p_extract rfl rfl rfl) ?_
    refine w_ (p_extract rfl rfl rfl) ?_
    refine a_alloc Tryz.zeroValue74 rfl rfl fun g3 => ?_
    refine a_storeOw 0 Tryz.sizeOf74 rfl rfl rfl rfl rfl rfl rfl ?_
    refine w_ (p_assign rfl rfl) ?_
    refine aw_nil ?_
    refine ac_seq ?_
    refine ac_reg ?_
    refine w_ (p_loadOw 0 Tryz.isAgg74 Tryz.sizeOf74 rfl rfl rfl rfl rfl) ?_
    refine a_storeOw 2 Tryz.sizeOf74 rfl rfl rfl rfl rfl rfl rfl ?_
    refine aw_nil ?_
    refine ac_ret ?_
    exact retB_1 Tryz.results170 (rv_cell 2 Tryz.isAgg74 Tryz.sizeOf74 rfl rfl rfl rfl rfl) (by rw [show Crv.mk k.x k.y k.d = k from rfl, Crv.norm_of hn])

set_option maxRecDepth 20000 in
theorem d_pred_Right {a b : Crv} (ha : Nml a) (hb : Nml b) (ca : Cb a) (cb : Cb b) : Does Tryz.prog 159 [.agg [pl a.x, pl a.y, sg a.d, mg a.d], .agg [pl b.x, pl b.y, sg b.d, mg b.d]] (.one (pl (pright a b))) := by
  refine does_ (n := 20) Tryz.func159 rfl Tryz.ntmps159 rfl ?_
  refine ac_seq ?_
  refine ac_reg ?_
  refine a_box rfl rfl rfl fun g1 => ?_
  refine a_box rfl rfl rfl fun g2 => ?_
  refine w_ (p_assign rfl rfl) ?_
  refine aw_nil ?_
  refine ac_seq ?_
  refine ac_draw mixed_ 3 [5, 6, 7] [[], [0], []] [.agg [pl a.x, pl a.y, sg a.d, mg a.d], .agg [pl a.x, pl a.y, sg a.d, mg a.d], .agg [pl b.x, pl b.y, sg b.d, mg b.d]] rfl rfl rfl ⟨p_loadOw 1 Tryz.isAgg74 Tryz.sizeOf74 rfl rfl rfl rfl rfl, p_call Tryz.func170 rfl rfl rfl rfl (d_pred_norm (ha) (ca.mono (by omega) (by omega))) rfl, p_loadOw 0 Tryz.isAgg74 Tryz.sizeOf74 rfl rfl rfl rfl rfl, trivial⟩ rfl ?_
  refine w_ (p_call Tryz.func170 rfl rfl rfl rfl (d_pred_norm (hb) (cb.mono (by omega) (by omega))) rfl) ?_
  refine a_storeOw 1 Tryz.sizeOf74 rfl rfl rfl rfl rfl rfl rfl ?_
  refine a_storeOw 0 Tryz.sizeOf74 rfl rfl rfl rfl rfl rfl rfl ?_
  refine aw_nil ?_
  refine ac_seq ?_
  refine ac_draw mixed_ 9 [9, 10, 11, 12, 13, 14, 15, 16, 17] [[], [0], [], [2], [1, 3], [], [5], [], [7]] [.one (.ow g2 0), .one (pl b.x), .one (.ow g1 2), .agg [sg a.d, mg a.d], .one (pl (pscale b.x a.d)), .one (.ow g1 0), .one (pl a.x), .one (.ow g2 2), .agg [sg b.d, mg b.d]] rfl rfl rfl ⟨p_fieldOw fa_74_0 rfl rfl, p_loadOw 0 Tryz.isAgg52 Tryz.sizeOf52 rfl rfl rfl rfl rfl, p_fieldOw fa_74_2 rfl rfl, p_loadOw 1 Tryz.isAgg55 Tryz.sizeOf55 rfl rfl rfl rfl rfl, p_call Tryz.func172 rfl rfl rfl rfl (d_poly_Scale (Nat.lt_of_le_of_lt cb.lx (by decide)) (bd_mono cb.x (by omega)) (Nat.le_trans ca.d (by omega))) rfl, p_fieldOw fa_74_0 rfl rfl, p_loadOw 1 Tryz.isAgg52 Tryz.sizeOf52 rfl rfl rfl rfl rfl, p_fieldOw fa_74_2 rfl rfl, p_loadOw 0 Tryz.isAgg55 Tryz.sizeOf55 rfl rfl rfl rfl rfl, trivial⟩ rfl ?_
  refine w_ (p_call Tryz.func172 rfl rfl rfl rfl (d_poly_Scale (Nat.lt_of_le_of_lt ca.lx (by decide)) (bd_mono ca.x (by omega)) (Nat.le_trans cb.d (by omega))) rfl) ?_
  refine w_ (p_call Tryz.func171 rfl rfl rfl rfl (d_poly_Sub (Nat.lt_of_le_of_lt (Nat.le_trans (len_pscale _ _) cb.lx) (by decide)) (Nat.lt_of_le_of_lt (Nat.le_trans (len_pscale _ _) ca.lx) (by decide)) (bd_mono (bd_pscale cb.x ca.d) (by decide)) (bd_mono (bd_pscale ca.x cb.d) (by decide))) rfl) ?_
  refine w_ (p_assign rfl rfl) ?_
  refine aw_nil ?_
  refine ac_ret ?_
  exact retB_1 Tryz.results159 (rv_tmp rfl rfl) (rfl)

set_option maxRecDepth 20000 in
theorem d_pred_Above {a b : Crv} (ha : Nml a) (hb : Nml b) (ca : Cb a) (cb : Cb b) : Does Tryz.prog 160 [.agg [pl a.x, pl a.y, sg a.d, mg a.d], .agg [pl b.x, pl b.y, sg b.d, mg b.d]] (.one (pl (pabove a b))) := by
  refine does_ (n := 20) Tryz.func160 rfl Tryz.ntmps160 rfl ?_
  refine ac_seq ?_
  refine ac_reg ?_
  refine a_box rfl rfl rfl fun g1 => ?_
  refine a_box rfl rfl rfl fun g2 => ?_
  refine w_ (p_assign rfl rfl) ?_
  refine aw_nil ?_
  refine ac_seq ?_
  refine ac_draw mixed_ 3 [5, 6, 7] [[], [0], []] [.agg [pl a.x, pl a.y, sg a.d, mg a.d], .agg [pl a.x, pl a.y, sg a.d, mg a.d], .agg [pl b.x, pl b.y, sg b.d, mg b.d]] rfl rfl rfl ⟨p_loadOw 1 Tryz.isAgg74 Tryz.sizeOf74 rfl rfl rfl rfl rfl, p_call Tryz.func170 rfl rfl rfl rfl (d_pred_norm (ha) (ca.mono (by omega) (by omega))) rfl, p_loadOw 0 Tryz.isAgg74 Tryz.sizeOf74 rfl rfl rfl rfl rfl, trivial⟩ rfl ?_
  refine w_ (p_call Tryz.func170 rfl rfl rfl rfl (d_pred_norm (hb) (cb.mono (by omega) (by omega))) rfl) ?_
  refine a_storeOw 1 Tryz.sizeOf74 rfl rfl rfl rfl rfl rfl rfl ?_
  refine a_storeOw 0 Tryz.sizeOf74 rfl rfl rfl rfl rfl rfl rfl ?_
  refine aw_nil ?_
  refine ac_seq ?_
  refine ac_draw mixed_ 9 [9, 10, 11, 12, 13, 14, 15, 16, 17] [[], [0], [], [2], [1, 3], [], [5], [], [7]] [.one (.ow g2 1), .one (pl b.y), .one (.ow g1 2), .agg [sg a.d, mg a.d], .one (pl (pscale b.y a.d)), .one (.ow g1 1), .one (pl a.y), .one (.ow g2 2), .agg [sg b.d, mg b.d]] rfl rfl rfl ⟨p_fieldOw fa_74_1 rfl rfl, p_loadOw 0 Tryz.isAgg52 Tryz.sizeOf52 rfl rfl rfl rfl rfl, p_fieldOw fa_74_2 rfl rfl, p_loadOw 1 Tryz.isAgg55 Tryz.sizeOf55 rfl rfl rfl rfl rfl, p_call Tryz.func172 rfl rfl rfl rfl (d_poly_Scale (Nat.lt_of_le_of_lt cb.ly (by decide)) (bd_mono cb.y (by omega)) (Nat.le_trans ca.d (by omega))) rfl, p_fieldOw fa_74_1 rfl rfl, p_loadOw 1 Tryz.isAgg52 Tryz.sizeOf52 rfl rfl rfl rfl rfl, p_fieldOw fa_74_2 rfl rfl, p_loadOw 0 Tryz.isAgg55 Tryz.sizeOf55 rfl rfl rfl rfl rfl, trivial⟩ rfl ?_
  refine w_ (p_call Tryz.func172 rfl rfl rfl rfl (d_poly_Scale (Nat.lt_of_le_of_lt ca.ly (by decide)) (bd_mono ca.y (by omega)) (Nat.le_trans cb.d (by omega))) rfl) ?_
  refine w_ (p_call Tryz.func171 rfl rfl rfl rfl (d_poly_Sub (Nat.lt_of_le_of_lt (Nat.le_trans (len_pscale _ _) cb.ly) (by decide)) (Nat.lt_of_le_of_lt (Nat.le_trans (len_pscale _ _) ca.ly) (by decide)) (bd_mono (bd_pscale cb.y ca.d) (by decide)) (bd_mono (bd_pscale ca.y cb.d) (by decide))) rfl) ?_
  refine w_ (p_assign rfl rfl) ?_
  refine aw_nil ?_
  refine ac_ret ?_
  exact retB_1 Tryz.results160 (rv_tmp rfl rfl) (rfl)

end Orr

namespace Orr
open Go
variable {P : Program} {ops : Array Oper} {n : Nat} {rest : List Oper} {N : Sg → List OB → Prop} {L : Sg} {B : List OB} {d : Nat} {ty : TypeId} {pos : String} {after : Array Edge}

theorem run_indexArr {t E len sz i : Nat} {kd : IntKind} {p : Int} (hu : ∀ w, (underlying t).run P w = .ok (.array len E) w) (hs : ∀ w, (Go.sizeOf E).run P w = .ok sz w) (hp : p = (i : Int)) (hi : i < len)
    (b o : Nat) (w : World) : (Instr.indexAt t (.pointer (some ⟨b, o, none⟩)) (.int kd p)).run P w = .ok (.pointer (some ⟨b, o + i * sz, none⟩)) w := by
  subst hp
  have h0 : (0 : Int) ≤ (i : Int) ∧ (i : Int) < (len : Int) := ⟨by omega, by omega⟩
  simp [Instr.indexAt, asIntOf, hu, hs, Instr.sureAddr, h0, hi, Addr.add]
theorem p_indexArrOw (i : Nat) {t E len sz g o : Nat} {x y : Operand} {kd : IntKind} {p : Int} (hu : ∀ w, (underlying t).run P w = .ok (.array len E) w) (hs : ∀ w, (Go.sizeOf E).run P w = .ok sz w)
    (hx : evA L x = some (.one (.ow g o))) (hy : evA L y = some (.one (.int kd p))) (hp : p = (i : Int)) (hi : i < len) (hd : Nat.blt d n = true) :
    AP P ops n { dst := some d, op := .indexAddr t x y, type := ty, pos := pos, after := after, guard := none } d (.one (.ow g (o + i * sz))) L B :=
  p_val hd fun K Ob w0 w a Bs L' Fs h hL hB => by
    obtain ⟨v, hv, hr1⟩ := ev_of hL hx
    obtain rfl : v = .pointer (some ⟨g, o, none⟩) := hr1
    obtain ⟨u, hu', hr2⟩ := ev_of hL hy
    obtain rfl := rep_int hr2
    refine ⟨.pointer (some ⟨g, o + i * sz, none⟩), ?_, rfl⟩
    simp only [execOp, h.ev hv, h.ev hu']
    rw [Sem.run_bind, run_indexArr hu hs hp hi]
    rfl
theorem p_indexArrSh (i : Nat) {t E len sz : Nat} {l r : List LV} {x y : Operand} {kd : IntKind} {p : Int} (hu : ∀ w, (underlying t).run P w = .ok (.array len E) w) (hs : ∀ w, (Go.sizeOf E).run P w = .ok sz w)
    (hx : evA L x = some (.one (.sh l))) (hy : evA L y = some (.one (.int kd p))) (hp : p = (i : Int)) (hi : i < len) (hr : dropL (i * sz) l = some r) (hd : Nat.blt d n = true) :
    AP P ops n { dst := some d, op := .indexAddr t x y, type := ty, pos := pos, after := after, guard := none } d (.one (.sh r)) L B :=
  p_val hd fun K Ob w0 w a Bs L' Fs h hL hB => by
    obtain ⟨v, hv, hr1⟩ := ev_of hL hx
    obtain ⟨u, hu', hr2⟩ := ev_of hL hy
    obtain rfl := rep_int hr2
    obtain ⟨b, o, rfl, h2⟩ := sh_drop (rep_sh hr1) hr
    refine ⟨.pointer (some ⟨b, o + i * sz, none⟩), ?_, h2⟩
    simp only [execOp, h.ev hv, h.ev hu']
    rw [Sem.run_bind, run_indexArr hu hs hp hi]
    rfl
theorem index_run {t E len sz i : Nat} {kd : IntKind} {p : Int} (hu : ∀ w, (underlying t).run P w = .ok (.array len E) w) (hs : ∀ w, (Go.sizeOf E).run P w = .ok sz w) (ht : ∀ w, (isAgg E).run P w = .ok false w)
    (hp : p = (i : Int)) (hi : i < len) {vs : List Value} {v : Value} (hv : vs[i * sz]? = some v) (w : World) : (Instr.index t (.agg vs.toArray) (.int kd p)).run P w = .ok v w := by
  subst hp
  have h0 : (0 : Int) ≤ (i : Int) ∧ (i : Int) < (len : Int) := ⟨by omega, by omega⟩
  simp [Instr.index, asIntOf, hu, hs, h0, hi, Go.part, ht, hv]
/-- a place of an array value, of one cell -/
theorem p_indexV (i : Nat) {t E len sz : Nat} {x y : Operand} {kd : IntKind} {p : Int} {xs : List LV} {z : LV} (hu : ∀ w, (underlying t).run P w = .ok (.array len E) w) (hs : ∀ w, (Go.sizeOf E).run P w = .ok sz w) (ht : ∀ w, (isAgg E).run P w = .ok false w)
    (hx : evA L x = some (.agg xs)) (hy : evA L y = some (.one (.int kd p))) (hp : p = (i : Int)) (hi : i < len) (hz : xs[i * sz]? = some z) (hd : Nat.blt d n = true) :
    AP P ops n { dst := some d, op := .index t x y, type := ty, pos := pos, after := after, guard := none } d (.one z) L B :=
  p_val hd fun K Ob w0 w a Bs L' Fs h hL hB => by
    obtain ⟨v, hv, vs, rfl, hreps⟩ := ev_of hL hx
    obtain ⟨u, hu', hr2⟩ := ev_of hL hy
    obtain rfl := rep_int hr2
    obtain ⟨v, hv2, hr⟩ := hreps.get hz
    refine ⟨v, ?_, hr⟩
    simp only [execOp, h.ev hv, h.ev hu']
    rw [Sem.run_bind, index_run hu hs ht hp hi hv2]
    rfl

/-! ### structs of whole numbers are compared -/
def ints (l : List Int) : List LV := l.map (LV.int .i64)
theorem ints_of {w : World} {O : Nat → Prop} : ∀ {l : List Int} {vs : List Value}, XReps w O vs (ints l) → vs = l.map (Value.int .i64)
  | [], [], _ => rfl
  | [], _ :: _, h => h.elim
  | _ :: _, [], h => h.elim
  | x :: l, v :: vs, h => by
    obtain ⟨h1, h2⟩ := h
    have e : v = .int .i64 x := rep_int (h := show ARep w O v (.one (.int .i64 x)) from h1)
    rw [e, ints_of h2]; rfl
theorem run_eqV {t : TypeId} {a b : List Int} (hg : P.eqGuardType P.depth t = false) (he : ∀ w, (Op.equal t (.agg (a.map (Value.int .i64)).toArray) (.agg (b.map (Value.int .i64)).toArray)).run P w = .ok (decide (a = b)) w)
    {ev : Operand → Value} {x y : Operand} {t' : TypeId} (hx : ev x = .agg (a.map (Value.int .i64)).toArray) (hy : ev y = .agg (b.map (Value.int .i64)).toArray) (w : World) :
    (execOp ev { dst := some d, op := .binOp .eql t x y t', type := ty, pos := pos, after := after, guard := none }).run P w = .ok (.value (.bool (decide (a = b)))) w
    ∧ (execOp ev { dst := some d, op := .binOp .neq t x y t', type := ty, pos := pos, after := after, guard := none }).run P w = .ok (.value (.bool (!decide (a = b)))) w := by
  constructor <;> simp [execOp, hx, hy, eqGuard, run_program, hg, Go.binOp, he]
theorem p_neV {x y : Operand} {xs ys : List LV} (a b : List Int) {r : Bool} {t t' : TypeId} (hg : P.eqGuardType P.depth t = false)
    (he : ∀ w, (Op.equal t (.agg (a.map (Value.int .i64)).toArray) (.agg (b.map (Value.int .i64)).toArray)).run P w = .ok (decide (a = b)) w)
    (hx : evA L x = some (.agg xs)) (hy : evA L y = some (.agg ys)) (hxs : xs = ints a) (hys : ys = ints b) (hr : (!decide (a = b)) = r) (hd : Nat.blt d n = true) :
    AP P ops n { dst := some d, op := .binOp .neq t x y t', type := ty, pos := pos, after := after, guard := none } d (.one (.bool r)) L B :=
  p_val hd fun K Ob w0 w aa Bs L' Fs h hL hB => by
    subst hxs hys hr
    obtain ⟨v, hv, vs, rfl, h1⟩ := ev_of hL hx
    obtain ⟨u, hu, us, rfl, h2⟩ := ev_of hL hy
    obtain rfl := ints_of h1
    obtain rfl := ints_of h2
    exact ⟨.bool (!decide (a = b)), (run_eqV hg he (h.ev hv) (h.ev hu) w).2, LRep.bool _⟩

/-! ### a pointer against nil -/
def isNilp : LV → Option Bool
  | .nilp => some true
  | .sh _ => some false
  | .ow _ _ => some false
  | .oel (some _) _ _ _ => some false
  | _ => none
theorem ptr_of {w : World} {O : Nat → Prop} {v : Value} {x : LV} {b : Bool} (h : ARep w O v (.one x)) (hb : isNilp x = some b) : ∃ p : Option Addr, v = .pointer p ∧ p.isNone = b := by
  cases x <;> first | (simp [isNilp] at hb; done) | skip
  case nilp => simp [isNilp] at hb; subst hb; cases (show LRep w O v .nilp from h); exact ⟨none, rfl, rfl⟩
  case sh l =>
    simp [isNilp] at hb; subst hb
    cases (show LRep w O v (.sh l) from h); exact ⟨_, rfl, rfl⟩
  case ow g o => simp [isNilp] at hb; subst hb; exact ⟨_, h, rfl⟩
  case oel r sz i o =>
    rcases r with _ | ⟨g, c⟩
    · simp [isNilp] at hb
    · simp [isNilp] at hb; subst hb; exact ⟨_, h, rfl⟩
theorem run_eqNil {t E : TypeId} {p : Option Addr} (hu : ∀ w, (underlying t).run P w = .ok (.pointer E) w) {ev : Operand → Value} {x y : Operand} {t' : TypeId} (hx : ev x = .pointer p) (hy : ev y = .pointer none) (w : World) :
    (execOp ev { dst := some d, op := .binOp .eql t x y t', type := ty, pos := pos, after := after, guard := none }).run P w = .ok (.value (.bool p.isNone)) w
    ∧ (execOp ev { dst := some d, op := .binOp .neq t x y t', type := ty, pos := pos, after := after, guard := none }).run P w = .ok (.value (.bool (!p.isNone))) w := by
  have he : (Op.equal t (.pointer p) (.pointer none)).run P w = .ok p.isNone w := by
    have key : ∀ d, (Op.equalIn (d + 1) t (.pointer p) (.pointer none)).run P w = .ok p.isNone w := fun d => by cases p <;> simp [Op.equalIn, hu]
    exact key 9999
  constructor <;> simp [execOp, hx, hy, eqGuard, Go.binOp, he]
theorem p_eqNil {x y : Operand} {u : LV} {b r : Bool} {t t' E : TypeId} (hu : ∀ w, (underlying t).run P w = .ok (.pointer E) w) (hx : evA L x = some (.one u)) (hy : evA L y = some (.one .nilp)) (hb : isNilp u = some b) (hr : b = r) (hd : Nat.blt d n = true) :
    AP P ops n { dst := some d, op := .binOp .eql t x y t', type := ty, pos := pos, after := after, guard := none } d (.one (.bool r)) L B :=
  p_val hd fun K Ob w0 w aa Bs L' Fs h hL hB => by
    subst hr
    obtain ⟨v, hv, h1⟩ := ev_of hL hx
    obtain ⟨u', hu', h2⟩ := ev_of hL hy
    obtain ⟨p, rfl, rfl⟩ := ptr_of h1 hb
    obtain ⟨q, rfl, hq⟩ := ptr_of h2 rfl
    obtain rfl : q = none := by cases q <;> simp_all
    exact ⟨.bool p.isNone, (run_eqNil hu (h.ev hv) (h.ev hu') w).1, LRep.bool _⟩
end Orr

namespace Orr
open Go
variable {P : Program} {Q : Exit → Act → World → Prop}
variable {K Ob : Nat → Prop} {w0 w : World} {a : Act} {n : Nat} {L : List (Nat × Value)} {Fs : List Fact} {Bs : List Blk}
def DrawOpI (P : Program) (ops : Array Oper) (K Ob : Nat → Prop) (w0 : World) (n : Nat) (L : List (Nat × Value)) (Fs : List Fact) (Inv : (Nat → Bool) → (Nat → Value) → World → List Blk → Prop) (D : List (Option Nat)) (S : List (Value → Fact)) (i : Nat) (dep : List Nat) (o : Oper) : Prop :=
  ∀ (p : Nat → Bool) (_ : p i = false) (_ : ∀ j ∈ dep, p j = true) (v : Nat → Value) (Fx : List Fact) (a : Act) (w : World) (Bs : List Blk), Inv p v w Bs → St K Ob w0 w a n (dL D v dep ++ L) (dep.map (fun j => (S.getD j noF) (v j)) ++ (Fs ++ Fx)) Bs →
    wpList P ops (fun e a' w' => e = .normal ∧ ∃ u Bs', Inv (fun j => j == i || p j) (fun j => if j = i then u else v j) w' Bs' ∧ St K Ob w0 w' a' n (if dE D i then [(dd D i, u)] else []) ((S.getD i noF) u :: (Fs ++ Fx)) Bs') [o] a w
def DrawOpsI (P : Program) (ops : Array Oper) (K Ob : Nat → Prop) (w0 : World) (n : Nat) (L : List (Nat × Value)) (Fs : List Fact) (Inv : (Nat → Bool) → (Nat → Value) → World → List Blk → Prop) (D : List (Option Nat)) (S : List (Value → Fact)) : Nat → List (List Nat) → List Oper → Prop
  | i, dep :: deps, o :: os => DrawOpI P ops K Ob w0 n L Fs Inv D S i dep o ∧ DrawOpsI P ops K Ob w0 n L Fs Inv D S (i + 1) deps os
  | _, _, _ => True
theorem DrawOpsI.get {ops : Array Oper} {Inv : (Nat → Bool) → (Nat → Value) → World → List Blk → Prop} {D : List (Option Nat)} {S : List (Value → Fact)} : ∀ {k : Nat} {deps : List (List Nat)} {os : List Oper}, DrawOpsI P ops K Ob w0 n L Fs Inv D S k deps os →
    ∀ (i : Nat) (dep : List Nat) (o : Oper), deps[i]? = some dep → os[i]? = some o → DrawOpI P ops K Ob w0 n L Fs Inv D S (k + i) dep o
  | k, [], os, _, i, dep, o, hd, _ => by simp at hd
  | k, d :: deps, [], _, i, dep, o, _, ho => by simp at ho
  | k, d :: deps, p :: os, h, i, dep, o, hd, ho => by
    cases i with
    | zero => simp at hd ho; subst hd; subst ho; exact h.1
    | succ i =>
      have := DrawOpsI.get h.2 i dep o (by simpa using hd) (by simpa using ho)
      rw [show k + (i + 1) = k + 1 + i from by omega]
      exact this

def MidI (K Ob : Nat → Prop) (w0 : World) (n : Nat) (L : List (Nat × Value)) (Fs : List Fact) (Inv : (Nat → Bool) → (Nat → Value) → World → List Blk → Prop) (D : List (Option Nat)) (S : List (Value → Fact)) (ls : List Nat) (a : Act) (w : World) : Prop :=
  ∃ (v : Nat → Value) (Bs : List Blk), Inv (fun j => decide (j ∈ ls)) v w Bs ∧ St K Ob w0 w a n (dL D v ls ++ L) (Fs ++ ls.map (fun j => (S.getD j noF) (v j))) Bs
section
variable {l : List Oper} {m : Nat} {Inv : (Nat → Bool) → (Nat → Value) → World → List Blk → Prop} {D : List (Option Nat)} {S : List (Value → Fact)} {deps : List (List Nat)}
/-- one operation more -/
theorem midI_step (hc : Chk l m D deps) (hL : ∀ j, j < m → dE D j = true → look L (dd D j) = none) (hops : DrawOpsI P l.toArray K Ob w0 n L Fs Inv D S 0 deps l)
    {ls : List Nat} (hls : ∀ j ∈ ls, j < m) {i : Nat} (hi : i < m) (hni : i ∉ ls) (hp : ∀ j ∈ preds l i, j ∈ ls) {a : Act} {w : World} (h : MidI K Ob w0 n L Fs Inv D S ls a w)
    {N : Act → World → Prop} (hN : ∀ a w, MidI K Ob w0 n L Fs Inv D S (i :: ls) a w → N a w) : wpOp P l.toArray Q i N a w := by
  obtain ⟨v, Bs, hinv, hst⟩ := h
  obtain ⟨o, ho, hd, hdep⟩ := hc.op i hi
  have hdepsi : deps[i]? = some (deps.getD i []) := by
    have : i < deps.length := by rw [hc.deplen]; exact hi
    rw [List.getD_eq_getElem?_getD, List.getElem?_eq_getElem this]; rfl
  have hinj : ∀ ls' : List Nat, (∀ j ∈ ls', j < m) → ∀ x ∈ ls'.filter (dE D), ∀ y ∈ ls'.filter (dE D), dd D x = dd D y → x = y := fun ls' hl' x hx y hy e =>
    hc.inj x (hl' x (mem_filt hx).1) y (hl' y (mem_filt hy).1) (mem_filt hx).2 (mem_filt hy).2 e
  have hop := hops.get i (deps.getD i []) o hdepsi ho
  rw [Nat.zero_add] at hop
  have hdl : ∀ j ∈ deps.getD i [], j ∈ ls := fun j hj => hp j (hdep j hj).1
  have hstart : St K Ob w0 w a n (dL D v (deps.getD i []) ++ L) ((deps.getD i []).map (fun j => (S.getD j noF) (v j)) ++ (Fs ++ ls.map (fun j => (S.getD j noF) (v j)))) Bs := by
    refine { hst with slots := fun t u hu => ?_, facts := fun f hf => ?_ }
    · rcases look_split (D := dd D) hu with ⟨j, hj, rfl⟩ | hu'
      · have hj' := mem_filt hj
        have hjls := hdl j hj'.1
        have e1 := look_map (D := dd D) (v := v) (L := L) hj (hinj _ (fun x hx => hls x (hdl x hx)))
        unfold dL at hu
        rw [e1] at hu; injection hu with hu; subst hu
        exact hst.slots _ _ (look_map (D := dd D) (v := v) (L := L) (List.mem_filter.2 ⟨hjls, hj'.2⟩) (hinj _ hls))
      · refine hst.slots _ _ (look_fresh (D := dd D) (fun x hx e => ?_) hu')
        have := hL x (hls x (mem_filt hx).1) (mem_filt hx).2
        rw [e, hu'] at this; cases this
    · rcases List.mem_append.1 hf with hf | hf
      · obtain ⟨j, hj, rfl⟩ := List.mem_map.1 hf
        exact hst.facts _ (List.mem_append.2 (.inr (List.mem_map.2 ⟨j, hdl j hj, rfl⟩)))
      · exact hst.facts _ hf
  have hwp := hop (fun j => decide (j ∈ ls)) (by simpa using hni) (fun j hj => by simpa using hdl j hj) v (ls.map (fun j => (S.getD j noF) (v j))) a w Bs hinv hstart
  have hBF : (fun j => j == i || decide (j ∈ ls)) = fun j => decide (j ∈ i :: ls) := by
    funext j; simp only [List.mem_cons]; by_cases e : j = i <;> simp [e]
  rw [hBF] at hwp
  -- what is known behind the operation
  have key : ∀ a' w', (∃ x, a' = a.put o.dst x) → (∃ u Bs', Inv (fun j => decide (j ∈ i :: ls)) (fun j => if j = i then u else v j) w' Bs' ∧ St K Ob w0 w' a' n (if dE D i then [(dd D i, u)] else []) ((S.getD i noF) u :: (Fs ++ ls.map (fun j => (S.getD j noF) (v j)))) Bs') → N a' w' := by
    intro a' w' ⟨x, hx⟩ ⟨u, Bs', hinv', hst'⟩
    refine hN a' w' ⟨fun j => if j = i then u else v j, Bs', hinv', { hst' with slots := fun t y hy => ?_, facts := fun f hf => ?_ }⟩
    · have hcongr : (ls.filter (dE D)).map (fun j => (dd D j, if j = i then u else v j)) = (ls.filter (dE D)).map (fun j => (dd D j, v j)) := List.map_congr_left fun j hj => by
        have : j ≠ i := fun e => hni (e ▸ (mem_filt hj).1)
        simp [this]
      have hold : ∀ {y}, look (dL D v ls ++ L) t = some y → (dE D i = true → t ≠ dd D i) → a'.tmps[t]? = some y := fun {y} hy hne => by
        have hsame : a'.tmps[t]? = a.tmps[t]? := by
          rw [hx, hd]
          cases e : D.getD i none with
          | none => rfl
          | some d =>
            have h1 : dE D i = true := by unfold dE; rw [e]; rfl
            have h2 : dd D i = d := by unfold dd; rw [e]; rfl
            have := hne h1
            rw [h2] at this
            simp only [Act.put]
            rw [Array.getElem?_setIfInBounds_ne (fun e => this e.symm)]
        rw [hsame]
        exact hst.slots t y hy
      by_cases hE : dE D i = true
      · unfold dL at hy
        rw [List.filter_cons_of_pos hE] at hy
        simp only [List.map_cons, List.cons_append, look, hcongr] at hy
        cases e : Nat.beq t (dd D i)
        · rw [e] at hy
          exact hold hy fun _ => Nat.ne_of_beq_eq_false e
        · rw [e] at hy
          simp only [if_true] at hy
          injection hy with hy; subst hy
          have e' := Nat.eq_of_beq_eq_true e
          subst e'
          refine hst'.slots _ _ ?_
          simp [look, hE]
      · unfold dL at hy
        rw [List.filter_cons_of_neg hE, hcongr] at hy
        exact hold hy fun h => absurd h hE
    · rcases List.mem_append.1 hf with hf | hf
      · exact hst'.facts f (List.mem_cons_of_mem _ (List.mem_append.2 (.inl hf)))
      · rcases List.mem_map.1 hf with ⟨j, hj, rfl⟩
        rcases List.mem_cons.1 hj with rfl | hj
        · simp only [if_true]
          exact hst'.facts _ (List.mem_cons_self ..)
        · have hne : j ≠ i := fun e => hni (e ▸ hj)
          simp only [hne, if_false]
          exact hst'.facts _ (List.mem_cons_of_mem _ (List.mem_append.2 (.inr (List.mem_map.2 ⟨j, hj, rfl⟩))))
  unfold wpOp
  have hoa : l.toArray[i]? = some o := by simpa using ho
  simp only [hoa]
  have hno : ¬ LetsOut (fun (e : Exit) (a' : Act) (w' : World) => e = .normal ∧ ∃ u Bs', Inv (fun j => decide (j ∈ i :: ls)) (fun j => if j = i then u else v j) w' Bs' ∧ St K Ob w0 w' a' n (if dE D i then [(dd D i, u)] else []) ((S.getD i noF) u :: (Fs ++ ls.map (fun j => (S.getD j noF) (v j)))) Bs') := by
    rintro ⟨_, _, h, _⟩; cases h
  by_cases hw : Region.wanted o (yielded l.toArray a.tmps) = true
  · rw [if_pos hw]
    simp only [wpList, hw, if_true] at hwp
    have hwp := hwp.resolve_right (fun h => hno h.2)
    refine .inl (wp_conv hst.defers (fun a' w' hk => ?_) (fun c a w h => by cases h.1) hno hwp)
    obtain ⟨_, hk⟩ := hk
    exact ⟨by obtain ⟨u, _, _, hu⟩ := hk; exact hu.defers, fun hx => key a' w' hx hk⟩
  · rw [if_neg hw]
    simp only [wpList, hw] at hwp
    exact key _ _ ⟨_, rfl⟩ hwp.2

theorem earlyI_ (hc : Chk l m D deps) (hL : ∀ j, j < m → dE D j = true → look L (dd D j) = none) (hops : DrawOpsI P l.toArray K Ob w0 n L Fs Inv D S 0 deps l)
    (hfin : ∀ (p : Nat → Bool), (∀ j, j < m → p j = true) → ∀ (v : Nat → Value) a w Bs, Inv p v w Bs → St K Ob w0 w a n (dL D v (List.range m) ++ L) ((List.range m).map (fun j => (S.getD j noF) (v j)) ++ Fs) Bs → wpList P l.toArray Q (l.drop m) a w) :
    ∀ (fuel : Nat) (listed : Array Bool) (ls : List Nat) (a : Act) (w : World), listed.size = l.length → (∀ j, j < l.length → (listed.getD j true = true ↔ j ∈ ls)) → (∀ j ∈ ls, j < m) → ls.Nodup → (∀ i ∈ ls, ∀ j ∈ preds l i, j ∈ ls) →
      l.length ≤ ls.length + fuel → MidI K Ob w0 n L Fs Inv D S ls a w → wpAny P .any l.toArray Q fuel listed a w := by
  have hall : ∀ (ls : List Nat) (a : Act) (w : World), (∀ j ∈ ls, j < m) → (∀ j, j < m → j ∈ ls) → MidI K Ob w0 n L Fs Inv D S ls a w → wpList P l.toArray Q (l.drop m) a w := by
    intro ls a w hls hfull ⟨v, Bs, hinv, h⟩
    have hinj : ∀ ls' : List Nat, (∀ j ∈ ls', j < m) → ∀ x ∈ ls'.filter (dE D), ∀ y ∈ ls'.filter (dE D), dd D x = dd D y → x = y := fun ls' hl' x hx y hy e =>
      hc.inj x (hl' x (mem_filt hx).1) y (hl' y (mem_filt hy).1) (mem_filt hx).2 (mem_filt hy).2 e
    refine hfin (fun j => decide (j ∈ ls)) (fun j hj => by simpa using hfull j hj) v a w Bs hinv { h with slots := fun t u hu => ?_, facts := fun f hf => ?_ }
    · rcases look_split (D := dd D) hu with ⟨j, hj, rfl⟩ | hu'
      · have hj' := mem_filt hj
        have hjm : j < m := List.mem_range.1 hj'.1
        have e1 := look_map (D := dd D) (v := v) (L := L) hj (hinj _ (fun x hx => List.mem_range.1 hx))
        unfold dL at hu
        rw [e1] at hu; injection hu with hu; subst hu
        exact h.slots _ _ (look_map (D := dd D) (v := v) (L := L) (List.mem_filter.2 ⟨hfull j hjm, hj'.2⟩) (hinj _ hls))
      · refine h.slots _ _ (look_fresh (D := dd D) (fun x hx e => ?_) hu')
        have := hL x (hls x (mem_filt hx).1) (mem_filt hx).2
        rw [e, hu'] at this; cases this
    · rcases List.mem_append.1 hf with hf | hf
      · obtain ⟨j, hj, rfl⟩ := List.mem_map.1 hf
        exact h.facts _ (List.mem_append.2 (.inr (List.mem_map.2 ⟨j, hfull j (List.mem_range.1 hj), rfl⟩)))
      · exact h.facts _ (List.mem_append.2 (.inl hf))
  intro fuel
  induction fuel with
  | zero =>
    intro listed ls a w hs hlisted hls hn hcl hf h
    have h1 := sub_len hn hls
    have h2 := hc.le
    have hfull := full_of_len hn hls (by omega)
    have hm : m = l.length := by omega
    have hw := hall ls a w hls hfull h
    rw [List.drop_eq_nil_of_le (by omega)] at hw
    refine ⟨?_, hw⟩
    apply List.eq_nil_iff_forall_not_mem.2
    intro j hj
    obtain ⟨h0, hjl, _⟩ := preds_of_ready hj
    have := (hlisted j hjl).2 (hfull j (by omega))
    rw [h0] at this; cases this
  | succ fuel ih =>
    intro listed ls a w hs hlisted hls hn hcl hf h
    have hunl : ∀ j, j < l.length → j ∉ ls → listed.getD j true = false := fun j hj hno => by
      cases e : listed.getD j true
      · rfl
      · exact absurd ((hlisted j hj).1 e) hno
    refine ⟨fun hnil => ?_, fun i hi => ?_⟩
    · -- nothing is ready: all has been done
      have hdone : ∀ j, j < l.length → j ∈ ls := by
        intro j
        induction j using Nat.strongRecOn with
        | _ j ihj =>
          intro hj
          apply Classical.byContradiction
          intro hno
          have : j ∈ Region.ready .any l.toArray listed := ready_of_preds hj (hunl j hj hno) (fun x hx => by
            have hxj := hc.down j hj x hx
            rw [← getD_tf (by omega)]
            exact (hlisted x (by omega)).2 (ihj x hxj (by omega)))
          rw [hnil] at this; cases this
      have hm : l.length ≤ m := by
        rcases Nat.lt_or_ge m l.length with hlt | hge
        · have := hls m (hdone m hlt); omega
        · exact hge
      have hw := hall ls a w hls (fun j hj => hdone j (by have := hc.le; omega)) h
      rw [List.drop_eq_nil_of_le hm] at hw
      exact hw
    · obtain ⟨h0, hil, hp⟩ := preds_of_ready hi
      have hni : i ∉ ls := fun hin => by have := (hlisted i hil).2 hin; rw [h0] at this; cases this
      have hpl : ∀ j ∈ preds l i, j ∈ ls := fun j hj => by
        have hji := hc.down i hil j hj
        exact (hlisted j (by omega)).1 (by rw [getD_tf (by omega)]; exact hp j hj)
      by_cases him : i < m
      · refine midI_step hc hL hops hls him hni hpl h fun a' w' h' => ?_
        refine ih _ (i :: ls) a' w' (by simp [hs]) (fun x hx => ?_) (fun j hj => ?_) (List.nodup_cons.2 ⟨hni, hn⟩) (fun x hx j hj => ?_) (by simp; omega) h'
        · by_cases hxi : i = x
          · subst hxi; simp [hs, hil]
          · rw [getD_set_ne true hxi, hlisted x hx]
            simp only [List.mem_cons]
            exact ⟨.inr, fun h => h.resolve_left (fun e => hxi e.symm)⟩
        · rcases List.mem_cons.1 hj with rfl | hj
          · exact him
          · exact hls j hj
        · rcases List.mem_cons.1 hx with rfl | hx
          · exact List.mem_cons_of_mem _ (hpl j hj)
          · exact List.mem_cons_of_mem _ (hcl x hx j hj)
      · have hmi : m ≤ i := Nat.le_of_not_lt him
        have hin : ∀ j, j < i → j ∈ ls := fun j hj => tpreds_closed (p := fun x => x ∈ ls) (fun x hx y hy => hcl x hx y hy) (i + 1) i hpl j (hc.late i hil hmi j hj)
        have him' : i = m := by
          rcases Nat.lt_or_ge m i with hlt | hge
          · have := hls m (hin m hlt); omega
          · omega
        subst him'
        have hw := hall ls a w hls hin h
        have hlate := late_ (P := P) (Q := Q) hc (fuel + 1) i listed a w hs (fun j hj => by
          rw [hlisted j hj]
          exact ⟨hls j, hin j⟩) (Nat.le_refl _) (by
            have := sub_len hn hls
            omega) hw
        exact hlate.2 i hi

theorem drawI_ {id : Nat} (hm : P.follows .mixedOrders = true) (m : Nat) (D : List (Option Nat)) (deps : List (List Nat)) (S : List (Value → Fact)) (Inv : (Nat → Bool) → (Nat → Value) → World → List Blk → Prop) (hchk : chkDraw l m D deps = true) (h : St K Ob w0 w a n L Fs Bs) (hB : ∀ w', w'.heap = w.heap → Inv (fun _ => false) (fun _ => undef) w' Bs)
    (hL : (List.range m).all (fun j => !(dE D j) || (look L (dd D j)).isNone) = true) (hops : DrawOpsI P l.toArray K Ob w0 n L Fs Inv D S 0 deps l)
    (hfin : ∀ (p : Nat → Bool), (∀ j, j < m → p j = true) → ∀ (v : Nat → Value) a w Bs, Inv p v w Bs → St K Ob w0 w a n (dL D v (List.range m) ++ L) ((List.range m).map (fun j => (S.getD j noF) (v j)) ++ Fs) Bs → wpList P l.toArray Q (l.drop m) a w) :
    (Code.region id l.toArray true).wp P Q a w := by
  refine wp_region_any hm ?_
  have hL' : ∀ j, j < m → dE D j = true → look L (dd D j) = none := fun j hj hE => by
    have := List.all_eq_true.1 hL j (List.mem_range.2 hj)
    simpa [hE] using this
  refine earlyI_ (chk_of hchk) hL' hops hfin l.toArray.size _ [] a _ (by simp) (fun j hj => ?_) (by simp) List.nodup_nil (by simp) (by simp) ⟨fun _ => undef, Bs, hB _ rfl, ?_⟩
  · have hj' : j < (Array.replicate l.toArray.size false).size := by simpa using hj
    simp [Array.getD, hj]
  · simpa [dL] using h.same (w' := { w with drawn := w.drawn + 1 }) rfl
end
end Orr

namespace Orr
open Go
variable {P : Program} {ops : Array Oper} {n : Nat} {rest : List Oper} {N : Sg → List OB → Prop} {L : Sg} {B : List OB} {d : Nat} {ty : TypeId} {pos : String} {after : Array Edge}

/-- an operation that writes what the call holds -/
def AM (P : Program) (ops : Array Oper) (n : Nat) (o : Oper) (d : Nat) (L : Sg) (B : List OB) (R : AV → List OB → Prop) : Prop :=
  ∀ (K Ob : Nat → Prop) (w0 w : World) (a : Act) (Bs : List Blk) (L' : List (Nat × Value)) (Fs : List Fact), St K Ob w0 w a n L' Fs Bs → (∀ t x, lk L t = some x → ∃ v, look L' t = some v ∧ ARep w (owns Ob Bs) v x) → BsRep w (owns Ob Bs) B Bs →
    wpList P ops (fun e a' w' => e = .normal ∧ ∃ v Bs' u B1, R u B1 ∧ St K Ob w0 w' a' n [(d, v)] Fs Bs' ∧ ARep w' (owns Ob Bs') v u ∧ BsRep w' (owns Ob Bs') B1 Bs') [o] a w
theorem bs_split {w : World} {O : Nat → Prop} : ∀ {Bin Br : List OB} {Bs : List Blk}, BsRep w O (Bin ++ Br) Bs → ∃ Bi Bq, Bs = Bi ++ Bq ∧ BsRep w O Bin Bi ∧ BsRep w O Br Bq
  | [], Br, Bs, h => ⟨[], Bs, rfl, rfl, h⟩
  | b :: Bin, Br, Bs, h => by
    obtain ⟨Bo, Bs', rfl, h1, h2⟩ := h
    obtain ⟨Bi, Bq, rfl, h3, h4⟩ := bs_split h2
    exact ⟨Bo ++ Bi, Bq, by simp, ⟨Bo, Bi, rfl, h1, h3⟩, h4⟩
theorem bs_join {w : World} {O : Nat → Prop} : ∀ {B1 B2 : List OB} {b1 b2 : List Blk}, BsRep w O B1 b1 → BsRep w O B2 b2 → BsRep w O (B1 ++ B2) (b1 ++ b2)
  | [], B2, b1, b2, h1, h2 => by rw [show b1 = [] from h1]; exact h2
  | b :: B1, B2, b1, b2, h1, h2 => by
    obtain ⟨Bo, Bs', rfl, h3, h4⟩ := h1
    exact ⟨Bo, Bs' ++ b2, by simp, h3, bs_join h4 h2⟩
/-- what a region's operation does alone, it does among others -/
theorem am_of_aw {o : Oper} {R : AV → List OB → Prop} (haw : ∀ N : Sg → List OB → Prop, (∀ u B1, R u B1 → N ((d, u) :: L) B1) → AW P ops n [o] N L B) : AM P ops n o d L B R := by
  intro K Ob w0 w a Bs L' Fs h hL hB
  have h0 : St (fun b => b < w.heap.size ∧ b ∉ Bs.map (·.1)) Ob w w a n L' [] Bs :=
    { size := h.size, defers := h.defers, slots := h.slots, wsize := Nat.le_refl _, grow := fun _ _ => rfl, own := fun g T cs hm => ⟨fun hk => hk.2 (List.mem_map.2 ⟨_, hm, rfl⟩), (h.own g T cs hm).2⟩, nodup := h.nodup,
      facts := fun f hf => by simp at hf, base := fun b hk => hk.1, obase := fun b hb => Nat.lt_of_lt_of_le (h.obase b hb) h.wsize, ownO := h.ownO, io := ⟨rfl, rfl⟩ }
  refine haw (fun L2 B2 => ∃ u B1, R u B1 ∧ L2 = (d, u) :: L ∧ B2 = B1) (fun u B1 hR => ⟨u, B1, hR, rfl, rfl⟩) _ Ob w w a _ ⟨L', Bs, h0, hL, hB⟩ ?_
  rintro a' w' ⟨L2, B2, ⟨L2', Bs2, h1, h2, h3⟩, u, B1, hR, rfl, rfl⟩
  obtain ⟨v, hv, hr⟩ := h2 d u (by simp [lk])
  have hle : Le w (owns Ob Bs) w' (owns Ob Bs2) := by
    refine ⟨h1.wsize, fun b hb hno => h1.grow b ⟨hb, fun hm => hno (.inr hm)⟩, fun b hb ho => ?_⟩
    rcases ho with ho | hm
    · exact .inl ho
    · by_cases hb2 : b ∈ Bs.map (·.1)
      · exact .inr hb2
      · obtain ⟨⟨g, T, cs⟩, hg, rfl⟩ := List.mem_map.1 hm
        exact absurd ⟨hb, hb2⟩ (h1.own g T cs hg).1
  have hnk : ∀ b, K b → b < w.heap.size ∧ b ∉ Bs.map (·.1) := fun b hk => ⟨Nat.lt_of_lt_of_le (h.base b hk) h.wsize, fun hm => by
    obtain ⟨⟨g, T, cs⟩, hg, rfl⟩ := List.mem_map.1 hm
    exact (h.own g T cs hg).1 hk⟩
  refine ⟨rfl, v, Bs2, u, B2, hR, ?_, hr, h3⟩
  exact { size := h1.size, defers := h1.defers, slots := fun t x hx => by
            simp only [look] at hx
            cases e : Nat.beq t d <;> rw [e] at hx
            · cases hx
            · injection hx with hx; subst hx; rw [Nat.eq_of_beq_eq_true e]; exact h1.slots d v hv
          wsize := Nat.le_trans h.wsize h1.wsize, grow := fun b hk => (h1.grow b (hnk b hk)).trans (h.grow b hk), own := fun g T cs hm => ⟨fun hk => (h1.own g T cs hm).1 (hnk g hk), (h1.own g T cs hm).2⟩,
          nodup := h1.nodup, facts := fun f hf => f.keep hle (h.facts f hf), base := h.base, obase := h.obase, ownO := h1.ownO, io := ⟨h1.io.1.trans h.io.1, h1.io.2.trans h.io.2⟩ }

def MOp0 (P : Program) (ops : Array Oper) (n : Nat) (L : Sg) (B : List OB) (R : AV → List OB → Prop) (c i d : Nat) (u : AV) (dep : Sg) (o : Oper) : Prop :=
  match Nat.beq i c with
  | true => AM P ops n o d (dep ++ L) B R
  | false => AP P ops n o d u (dep ++ L) B
def MOp1 (P : Program) (ops : Array Oper) (n : Nat) (L : Sg) (B : List OB) (c i d : Nat) (u : AV) (dep : Sg) (o : Oper) : Prop :=
  match Nat.beq i c with
  | true => True
  | false => AP P ops n o d u (dep ++ L) B
def MOps0 (P : Program) (ops : Array Oper) (n : Nat) (L : Sg) (B : List OB) (R : AV → List OB → Prop) (c : Nat) (D : List Nat) (us : List AV) : Nat → List Sg → List Oper → Prop
  | i, dep :: deps, o :: os => MOp0 P ops n L B R c i (D.getD i 0) (us.getD i .un) dep o ∧ MOps0 P ops n L B R c D us (i + 1) deps os
  | _, _, _ => True
def MOps1 (P : Program) (ops : Array Oper) (n : Nat) (L : Sg) (B : List OB) (c : Nat) (D : List Nat) (us : List AV) : Nat → List Sg → List Oper → Prop
  | i, dep :: deps, o :: os => MOp1 P ops n L B c i (D.getD i 0) (us.getD i .un) dep o ∧ MOps1 P ops n L B c D us (i + 1) deps os
  | _, _, _ => True
theorem MOps0.get {R : AV → List OB → Prop} {c : Nat} {D : List Nat} {us : List AV} : ∀ {os : List Oper} {ds : List Sg} {k : Nat}, MOps0 P ops n L B R c D us k ds os → ∀ (i : Nat) dep o, ds[i]? = some dep → os[i]? = some o → MOp0 P ops n L B R c (k + i) (D.getD (k + i) 0) (us.getD (k + i) .un) dep o
  | [], _, _, _, i, _, _, _, ho => by simp at ho
  | _ :: _, [], _, _, i, _, _, hd, _ => by simp at hd
  | o :: os, dp :: ds, k, h, 0, dep, o', hd, ho => by simp at hd ho; subst hd; subst ho; exact h.1
  | o :: os, dp :: ds, k, h, i + 1, dep, o', hd, ho => by
    have := MOps0.get h.2 i dep o' (by simpa using hd) (by simpa using ho)
    rw [show k + (i + 1) = k + 1 + i from by omega]
    exact this
theorem MOps1.get {c : Nat} {D : List Nat} {us : List AV} : ∀ {os : List Oper} {ds : List Sg} {k : Nat}, MOps1 P ops n L B c D us k ds os → ∀ (i : Nat) dep o, ds[i]? = some dep → os[i]? = some o → MOp1 P ops n L B c (k + i) (D.getD (k + i) 0) (us.getD (k + i) .un) dep o
  | [], _, _, _, i, _, _, _, ho => by simp at ho
  | _ :: _, [], _, _, i, _, _, hd, _ => by simp at hd
  | o :: os, dp :: ds, k, h, 0, dep, o', hd, ho => by simp at hd ho; subst hd; subst ho; exact h.1
  | o :: os, dp :: ds, k, h, i + 1, dep, o', hd, ho => by
    have := MOps1.get h.2 i dep o' (by simpa using hd) (by simpa using ho)
    rw [show k + (i + 1) = k + 1 + i from by omega]
    exact this
theorem same_le {w w' : World} (h : w'.heap = w.heap) (O : Nat → Prop) : Le w O w' O := ⟨Nat.le_of_eq (by rw [h]), fun _ _ _ => by rw [h], fun _ _ ho => ho⟩
theorem ac_drawM {id : Nat} {l : List Oper} {Q : Exit → Sg → List OB → Prop} (hm : P.follows .mixedOrders = true) (m : Nat) (D : List Nat) (deps : List (List Nat)) (us : List AV) (c : Nat) (R : AV → List OB → Prop) (hchk : chkDraw l m (D.map some) deps = true)
    (hDm : (Nat.beq D.length m && Nat.beq us.length m && Nat.blt c m && deps.all fun js => js.all fun j => Nat.blt j m && !(Nat.beq j c)) = true) (hun : us[c]? = some .un) (hnone : (D.all fun t => (lk L t).isNone) = true)
    (hops0 : MOps0 P l.toArray n L B R c D us 0 (depsOf D us deps) (l.take m)) (hops1 : ∀ u B1, R u B1 → MOps1 P l.toArray n L B1 c D us 0 (depsOf D us deps) (l.take m))
    (k : ∀ u B1, R u B1 → ∃ L2, zipD D (us.set c u) L = some L2 ∧ AW P l.toArray n (l.drop m) (fun L B => Q .normal L B) L2 B1) : AC P n (.region id l.toArray true) Q L B := by
  rintro K Ob w0 w a ⟨L', Bs, h, hL, hB⟩
  simp only [Bool.and_eq_true, List.all_eq_true] at hDm hnone
  obtain ⟨⟨⟨hD, hU⟩, hcm⟩, hdl⟩ := hDm
  have hD := Nat.eq_of_beq_eq_true hD
  have hU := Nat.eq_of_beq_eq_true hU
  have hcm : c < m := by rwa [Nat.blt_eq] at hcm
  have hdl : ∀ js ∈ deps, ∀ j ∈ js, j < m := fun js hj j hjj => by have := (hdl js hj j hjj).1; rwa [Nat.blt_eq] at this
  obtain ⟨L3, h1, h2, h3⟩ := only L hL
  have hst : St K Ob w0 w a n L3 [] Bs := { h with slots := fun t v hv => h.slots t v (h2 t v hv) }
  have hst2 := hst.add (f := SF L L3 [] [] [] []) ⟨h3, rfl, trivial⟩
  have hc := chk_of hchk
  let Inv : (Nat → Bool) → (Nat → Value) → World → List Blk → Prop := fun p v w Bs => (p c = false ∧ BsRep w (owns Ob Bs) B Bs) ∨ (p c = true ∧ ∃ u B1, R u B1 ∧ ARep w (owns Ob Bs) (v c) u ∧ BsRep w (owns Ob Bs) B1 Bs)
  have hone : ∀ (i : Nat) (dj : List Nat) (o : Oper), deps[i]? = some dj → l[i]? = some o → i < m → DrawOpI P l.toArray K Ob w0 n L3 [SF L L3 [] [] [] []] Inv (D.map some) (us.map avF) i dj o := by
    intro i dj o hdj ho hi p hpi _ v Fx a' w' Bs hinv hs
    have hjm := hdl dj (List.mem_of_getElem? hdj)
    rw [dL_some D v dj fun j hj => by rw [hD]; exact hjm j hj] at hs
    have hfacts : ∀ j ∈ dj, ARep w' (owns Ob Bs) (v j) (us.getD j .un) := fun j hj => by
      have := hs.facts ((us.map avF).getD j noF (v j)) (List.mem_append.2 (.inl (List.mem_map.2 ⟨j, hj, rfl⟩)))
      rw [List.getD_eq_getElem?_getD, List.getElem?_map, List.getElem?_eq_getElem (by rw [hU]; exact hjm j hj)] at this
      rw [List.getD_eq_getElem?_getD, List.getElem?_eq_getElem (by rw [hU]; exact hjm j hj)]
      exact this
    obtain ⟨h6, _, _⟩ : (SF L L3 [] [] [] []).holds w' (owns Ob Bs) := hs.facts _ (List.mem_append.2 (.inr (by simp)))
    have hdk := dd_some D i (by rw [hD]; exact hi)
    have e5 : (us.map avF).getD i noF = avF (us[i]'(by rw [hU]; exact hi)) := by
      rw [List.getD_eq_getElem?_getD, List.getElem?_map, List.getElem?_eq_getElem (by rw [hU]; exact hi)]; rfl
    have e6 : us.getD i .un = us[i]'(by rw [hU]; exact hi) := by
      rw [List.getD_eq_getElem?_getD, List.getElem?_eq_getElem (by rw [hU]; exact hi)]; rfl
    have hdep := depsOf_get (D := D) (us := us) hdj
    have hl : (l.take m)[i]? = some o := by rw [List.getElem?_take, if_pos hi]; exact ho
    have plain : ∀ (BX : List OB) (y : Value) (uy : AV), BsRep w' (owns Ob Bs) BX Bs → ARep w' (owns Ob Bs) y uy → AP P l.toArray n o (D.getD i 0) (us.getD i .un) (dj.map (fun j => (D.getD j 0, us.getD j .un)) ++ L) BX →
        (∀ (w2 : World) (x : Value), BsRep w2 (owns Ob Bs) BX Bs → ARep w2 (owns Ob Bs) y uy → Inv (fun j => j == i || p j) (fun j => if j = i then x else v j) w2 Bs) →
        wpList P l.toArray (fun e a' w' => e = .normal ∧ ∃ u Bs', Inv (fun j => j == i || p j) (fun j => if j = i then u else v j) w' Bs' ∧ St K Ob w0 w' a' n (if dE (D.map some) i then [(dd (D.map some) i, u)] else []) (((us.map avF).getD i noF) u :: ([SF L L3 [] [] [] []] ++ Fx)) Bs') [o] a' w' := by
      intro BX y uy hBX hy hap hinv2
      have hs2 := (hs.add (f := avF uy y) hy).add (f := SF [] [] BX Bs [] []) ⟨fun t x (hh : none = some x) => (nomatch hh), hBX, trivial⟩
      have hw := hap K Ob w0 w' a' Bs _ _ hs2 (lk_dep h6 hfacts) hBX
      refine wp_next hs.defers (fun _ _ ⟨_, hh, _⟩ => hh.defers) hw fun a2 w2 hh => ?_
      obtain ⟨x, h8, h9⟩ := hh
      obtain ⟨_, h10, _⟩ := h8.fact 0 rfl
      have h11 : ARep w2 (owns Ob Bs) y uy := h8.fact 1 rfl
      refine wpList_nil ⟨rfl, x, Bs, hinv2 w2 x h10 h11, ?_⟩
      rw [if_pos hdk.2, hdk.1, e5]
      rw [e6] at h9
      have h8 : St K Ob w0 w2 a2 n _ ((SF [] [] BX Bs [] [] :: avF uy y :: List.map (fun j => (List.map avF us).getD j noF (v j)) dj) ++ ([SF L L3 [] [] [] []] ++ Fx)) Bs := h8
      exact h8.drawEnd (by simp [look]) h9
    cases hic : Nat.beq i c with
    | true =>
      have hic' := Nat.eq_of_beq_eq_true hic
      subst hic'
      have hop := hops0.get i _ o hdep hl
      rw [Nat.zero_add] at hop
      unfold MOp0 at hop
      rw [hic] at hop
      have hBX : BsRep w' (owns Ob Bs) B Bs := by
        rcases hinv with ⟨_, hh⟩ | ⟨hh, _⟩
        · exact hh
        · rw [hpi] at hh; cases hh
      have hw := hop K Ob w0 w' a' Bs _ _ hs (lk_dep h6 hfacts) hBX
      refine wp_next hs.defers (fun _ _ ⟨_, _, _, _, _, hh, _⟩ => hh.defers) hw fun a2 w2 hh => ?_
      obtain ⟨x, Bs', u, B1, hR, h8, h9, h10⟩ := hh
      refine wpList_nil ⟨rfl, x, Bs', .inr ⟨by simp, u, B1, hR, by simpa using h9, h10⟩, ?_⟩
      rw [if_pos hdk.2, hdk.1, e5]
      have e7 : us[i]'(by rw [hU]; exact hi) = .un := by
        have := List.getElem?_eq_getElem (l := us) (i := i) (by rw [hU]; exact hi)
        rw [hun] at this; injection this with this; exact this.symm
      rw [e7]
      exact h8.drawEnd (f := avF .un x) (by simp [look]) trivial
    | false =>
      have hne : c ≠ i := fun e => by subst e; simp at hic
      have hpc : (c == i || p c) = p c := by simp [hne]
      have hvc : ∀ x : Value, (if c = i then x else v c) = v c := fun x => if_neg hne
      rcases hinv with ⟨hp, hh⟩ | ⟨hp, u1, B1, hR, hv1, hh⟩
      · have hop := hops0.get i _ o hdep hl
        rw [Nat.zero_add] at hop
        unfold MOp0 at hop
        rw [hic] at hop
        exact plain B (.bool true) (.one (.bool true)) hh (LRep.bool _) hop fun w2 x h10 _ => .inl ⟨hpc.trans hp, h10⟩
      · have hop := (hops1 u1 B1 hR).get i _ o hdep hl
        rw [Nat.zero_add] at hop
        unfold MOp1 at hop
        rw [hic] at hop
        exact plain B1 (v c) u1 hh hv1 hop fun w2 x h10 h11 => .inr ⟨hpc.trans hp, u1, B1, hR, by show ARep _ _ (if c = i then x else v c) u1; rw [hvc x]; exact h11, h10⟩
  have hdrawops : ∀ (js : List (List Nat)) (os : List Oper) (k : Nat), (∀ i dj o, js[i]? = some dj → os[i]? = some o → DrawOpI P l.toArray K Ob w0 n L3 [SF L L3 [] [] [] []] Inv (D.map some) (us.map avF) (k + i) dj o) →
      DrawOpsI P l.toArray K Ob w0 n L3 [SF L L3 [] [] [] []] Inv (D.map some) (us.map avF) k js os := by
    intro js
    induction js with
    | nil => intro os k _; cases os <;> trivial
    | cons dj js ih =>
      intro os k hall
      rcases os with _ | ⟨o, os⟩
      · trivial
      · refine ⟨by have := hall 0 dj o rfl rfl; rwa [Nat.add_zero] at this, ih os (k + 1) fun i dj' o' hd ho => ?_⟩
        have := hall (i + 1) dj' o' (by simpa using hd) (by simpa using ho)
        rwa [show k + (i + 1) = k + 1 + i from by omega] at this
  refine drawI_ hm m (D.map some) deps (us.map avF) Inv hchk hst2 (fun w' hw' => .inl ⟨rfl, hB.keep (same_le hw' _)⟩) ?_ (hdrawops deps l 0 fun i dj o hd ho => by
    rw [Nat.zero_add]
    exact hone i dj o hd ho (by have := (List.getElem?_eq_some_iff.1 hd).1; rw [hc.deplen] at this; exact this)) fun p hp v a' w' Bs hinv hs => ?_
  · rw [List.all_eq_true]
    intro j hj
    have hjm : j < m := List.mem_range.1 hj
    rw [(dd_some D j (by rw [hD]; exact hjm)).1]
    have hmem : D.getD j 0 ∈ D := by rw [List.getD_eq_getElem?_getD, List.getElem?_eq_getElem (by rw [hD]; exact hjm)]; exact List.getElem_mem _
    have := hnone _ hmem
    rw [Option.isNone_iff_eq_none] at this
    rw [h1 _ this]; simp
  · rw [dL_some D v _ fun j hj => by rw [hD]; exact List.mem_range.1 hj] at hs
    have hfacts : ∀ j ∈ List.range m, ARep w' (owns Ob Bs) (v j) (us.getD j .un) := fun j hj => by
      have hjm := List.mem_range.1 hj
      have := hs.facts ((us.map avF).getD j noF (v j)) (List.mem_append.2 (.inl (List.mem_map.2 ⟨j, hj, rfl⟩)))
      rw [List.getD_eq_getElem?_getD, List.getElem?_map, List.getElem?_eq_getElem (by rw [hU]; exact hjm)] at this
      rw [List.getD_eq_getElem?_getD, List.getElem?_eq_getElem (by rw [hU]; exact hjm)]
      exact this
    obtain ⟨h6, _, _⟩ : (SF L L3 [] [] [] []).holds w' (owns Ob Bs) := hs.facts _ (List.mem_append.2 (.inr (by simp)))
    rcases hinv with ⟨hh, _⟩ | ⟨_, u1, B1, hR, hv1, hB1⟩
    · rw [hp c hcm] at hh; cases hh
    · obtain ⟨L2, hz, k⟩ := k u1 B1 hR
      obtain ⟨_, rfl⟩ := zipD_eq hz
      have hU2 : (us.set c u1).length = m := by rw [List.length_set]; exact hU
      have hzip : D.zip (us.set c u1) = (List.range m).map fun j => (D.getD j 0, (us.set c u1).getD j .un) := by
        apply List.ext_getElem
        · simp [hD, hU]
        · intro i h1 h2
          simp at h1 h2
          have e1 : D[i]? = some D[i] := List.getElem?_eq_getElem (by omega)
          have e2 : (us.set c u1)[i]? = some ((us.set c u1)[i]'(by omega)) := List.getElem?_eq_getElem (by omega)
          rw [List.getElem_zip, List.getElem_map, List.getElem_range, List.getD_eq_getElem?_getD, List.getD_eq_getElem?_getD, e1, e2]; rfl
      rw [hzip] at k
      have hfacts2 : ∀ j ∈ List.range m, ARep w' (owns Ob Bs) (v j) ((us.set c u1).getD j .un) := fun j hj => by
        have hjm := List.mem_range.1 hj
        by_cases hjc : c = j
        · subst hjc
          rw [List.getD_eq_getElem?_getD, List.getElem?_set_self (by omega)]; exact hv1
        · have := hfacts j hj
          rw [List.getD_eq_getElem?_getD] at this ⊢
          rwa [List.getElem?_set_ne hjc]
      exact k K Ob w0 w' a' _ ⟨_, Bs, hs.noFacts, lk_dep h6 hfacts2, hB1⟩ fun a2 w2 h => h
end Orr
