/- The tournament: walked. However a way is cut, so many events. Plain. The tournament: walked, as a whole. Which points may be together: plain laws. Points that rise: who wins. Plain. Numbers over digits of four decimals: plain laws. The reference: natural numbers over digits of four decimals, told by what they mean. The reference: whole numbers as rational ones. The sorted row, walked: what is asked of it, what changes it. The sorted row, walked: ranks; helps of the laws. What all laws of new structures have alike: plain. The law TourneyRises: walked. What an argument reads as, told in plain data, where it is not looked into. The last step of a law of points and a number: the arguments as they lie in memory are told in plain data; behind the call nothing of the old memory has changed. The last step of a law of a row of numbers and a number. -/
import Derived.Test.YtbnjginelkkonaaGreatPart08
import Derived.Test.YtbnjginelkkonaaGreatPart04
import Derived.Deep.Slices
import Derived.ProofKit
import Derived.OpenShut
import Derived.WideKeyArgs
import Derived.SizedLaws
set_option linter.all false

namespace Orr
open Go Go.Proofs Orq
set_option maxRecDepth 10000
def gmrow (l : List (Pt × Pt)) : List (List LV) := l.map ofGm
theorem eRow {l m : List (List LV)} (h : l = m) : TV.one (LV.row l) = .one (.row m) := h ▸ rfl
theorem oz {P : Program} [Mo P] {n : Nat} {Q : Exit → Sg → List OB → Prop} {L L' : Sg} {B B' : List OB} (d off T sz : Nat) {it : List It} (hs : startish it = true) (h : pstE (P := P) d L B [.oc d off T sz] = some (L', B', [], [])) (k : AK P n Q it L' B') : AK P n Q it L B := AK.sub (pst_ok h EqOk.nil) hs k
theorem c_MakeM {a b : Pt} {t : Tm} (ha : Sc a.c) (hb : Sc b.c) (ht : Va t) : Does Tryz.prog 132 [.one (.int .i64 2), .agg (ta t), .one (.row [ofPt a, ofPt b])] [.agg (ofCt (mkMatch (sgA t) a b)), .one (.int .i64 0)] := by
  have h1 := cp_above hb ha
  have h2 := cp_right hb ha
  refine fnD Tryz.func132 rfl ?_
  refine go tt [.c [] c_points2, .f rfl] rfl trivial ?_
  refine lp (S := Nat) 3 (fun L1 i => (22, .v (.one (.int .i64 (i : Int)))) :: L1) (fun i => [.blk 67 (ta t), .blk 161 zCt, .blk 161 [.int .i64 2, .int .i64 (if 1 ≤ i then a.id else 0), .int .i64 (if 2 ≤ i then b.id else 0), .int .i64 0, .int .i64 0, .nils, .int .i64 0]]) (fun i => 2 - i) (fun i => i ≤ 2) 0 (Nat.zero_le _) rfl (fun _ _ => rfl) rfl fun i hi => ?_
  rcases (show i = 0 ∨ i = 1 ∨ i = 2 by omega) with rfl | rfl | rfl
  · refine go tt [.t rfl, .x (i := 0) (xs := ofPt a) rfl, .i 0] rfl (by simp [AllP]) ?_
    exact rd 1 (by omega) (by omega) rfl
  · refine go tt [.t rfl, .x (i := 1) (xs := ofPt b) rfl, .i 1] rfl (by simp [AllP]) ?_
    exact rd 2 (by omega) (by omega) rfl
  · exact en tt [.f rfl, .f rfl, .t rfl, .x (i := 1) (xs := ofPt b) rfl, .x (i := 0) (xs := ofPt a) rfl, .c [] (c_Above hb.n ha.n hb.cb ha.cb), .x (i := 1) (xs := ofPt b) rfl, .x (i := 0) (xs := ofPt a) rfl, .c [] (c_Right hb.n ha.n hb.cb ha.cb), .c [] c_either, .c [] (c_gAt (dp_either h1 h2).dp ht)] rfl rfl trivial
theorem c_TPlay1 {a : Tm} (ha : Va a) {c : Cr} {r0 r1 : List (List LV)} : ∀ (k : Nat) (l : List Pt) (ms : List (Pt × Pt)), l.length ≤ k → l.length ≤ 1000 → ms.length + l.length ≤ 1000000 → (∀ p ∈ l, Sc p.c) → DoesD Tryz.prog 143 [.one (.ow 0 0), .agg (ta a), .one (pts l)] [.blk 86 [.bool true, pl c.now.p, sg c.now.lo.num, mg c.now.lo.num, sg (c.now.lo.den : Int), mg (c.now.lo.den : Int), sg c.now.hi.num, mg c.now.hi.num, sg (c.now.hi.den : Int), mg (c.now.hi.den : Int), .row (wrow c.l), .int .i64 c.ev, .row r0, .row r1, .orow 1 10 none], .row false 212 10 (gmrow ms)] [.one (.row (ptrow (play (sgA a) l).1))] [.blk 86 [.bool true, pl c.now.p, sg c.now.lo.num, mg c.now.lo.num, sg (c.now.lo.den : Int), mg (c.now.lo.den : Int), sg c.now.hi.num, mg c.now.hi.num, sg (c.now.hi.den : Int), mg (c.now.hi.den : Int), .row (wrow c.l), .int .i64 c.ev, .row r0, .row r1, .orow 1 10 none], .row false 212 10 (gmrow (ms ++ (play (sgA a) l).2))]
 := by
  intro k
  induction k with
  | zero => ?_
  | succ k ih => ?_
  all_goals
    intro l ms hk hn hms hl
    have hcl := rp_len l
    show DoesD Tryz.prog 143 [.one (.ow 0 0), .agg (ta a), .one (.row (ptrow l))] _ _ _
    by_cases hs : l.length < 2
    · rw [play_few _ hs, List.append_nil]
      refine fnD Tryz.func143 rfl ?_
      exact ed tt [] [0, 1] [.t (by simp [hcl]; omega)] rfl trivial
    first
      | (exfalso; omega)
      | skip
        
        obtain ⟨k1, k2, k3, k4⟩ := halves hs hk
        obtain ⟨h, hh⟩ : ∃ h, h = (l.length + 1) / 2 := ⟨_, rfl⟩
        obtain ⟨u, hu, hul, _⟩ := play_one (sgA a) k (l.take ((l.length + 1) / 2)) k1 k3
        obtain ⟨v, hv, hvl, _⟩ := play_one (sgA a) k (l.drop ((l.length + 1) / 2)) k2 k4
        have g1 := play_games (sgA a) _ (l.take ((l.length + 1) / 2)) (Nat.le_refl _)
        have g2 := play_games (sgA a) _ (l.drop ((l.length + 1) / 2)) (Nat.le_refl _)
        have hlt : (l.take ((l.length + 1) / 2)).length + (l.drop ((l.length + 1) / 2)).length = l.length := by rw [List.length_take, List.length_drop]; omega
        have c1 := ih (l.take ((l.length + 1) / 2)) ms k1 (by omega) (by omega) fun p hp => hl p (List.mem_of_mem_take hp)
        have c2 := ih (l.drop ((l.length + 1) / 2)) (ms ++ (play (sgA a) (l.take ((l.length + 1) / 2))).2) k2 (by omega) (by rw [List.length_append]; omega) fun p hp => hl p (List.mem_of_mem_drop hp)
        have hpl := play_many (sgA a) hs hu hv
        rw [hpl]
        rw [hu] at c1
        rw [hv] at c2
        generalize (play (sgA a) (l.take ((l.length + 1) / 2))).2 = G1 at *
        generalize (play (sgA a) (l.drop ((l.length + 1) / 2))).2 = G2 at *
        have hsu := hl u (List.mem_of_mem_take hul)
        have hsv := hl v (List.mem_of_mem_drop hvl)
        have cb := c_Beats (t := a) hsu hsv ha
        have htd : ((l.length : Int) + 1).tdiv 2 = (((l.length + 1) / 2 : Nat) : Int) := rfl
        have hg : ∀ m, gmrow (ms ++ (G1 ++ G2 ++ [m])) = gmrow ((ms ++ G1) ++ G2) ++ [ofGm m] := fun m => by simp [gmrow]
        have hml : (gmrow ((ms ++ G1) ++ G2)).length = ms.length + G1.length + G2.length := by simp [gmrow]; omega
        have hml2 : (gmrow (ms ++ (G1 ++ G2))).length = ms.length + G1.length + G2.length := by simp [gmrow]; omega
        have h5 := eq_true (p := ∀ z, z ∈ ptrow l → z.length = ti35.sz) (rp_five l)
        have e1 : (ptrow l).take ((l.length + 1) / 2) = ptrow (l.take ((l.length + 1) / 2)) := by simp [ptrow, List.map_take]
        have e2 : (ptrow l).drop ((l.length + 1) / 2) = ptrow (l.drop ((l.length + 1) / 2)) := by simp [ptrow, List.map_drop]
        unfold duel
        refine fnD Tryz.func143 rfl ?_
        by_cases hb : beats (sgA a) u v = true
        · rw [if_pos hb, hg]
          exact ed tt [] [0, 1] [.f (by simp [hcl]; omega), .r 17 (eI (b := (((l.length + 1) / 2 : Nat) : Int)) (by rw [hcl]; rfl)), .i ((l.length + 1) / 2), .r 22 (eRow e1), .c [0, 1] c1, .i ((l.length + 1) / 2), .r 28 (eRow e2), .c [0, 1] c2, .x (i := 0) (l := ptrow [u]) (xs := ofPt u) rfl, .x (i := 0) (l := ptrow [v]) (xs := ofPt v) rfl, .c [] cb, .f (by rw [hb]; rfl), .x (i := 0) (l := ptrow [u]) (xs := ofPt u) rfl, .x (i := 0) (l := ptrow [v]) (xs := ofPt v) rfl, .s (sz := 10) (l := [ofGm (u, v)]) (fun c hc => by rw [List.mem_singleton.1 hc]; rfl), .i 1] rfl (by simp [AllP, rp_len, hml2, h5]; omega)
        · have hb : beats (sgA a) u v = false := by simpa using hb
          rw [if_neg (by simp [hb]), hg]
          exact ed tt [] [0, 1] [.f (by simp [hcl]; omega), .r 17 (eI (b := (((l.length + 1) / 2 : Nat) : Int)) (by rw [hcl]; rfl)), .i ((l.length + 1) / 2), .r 22 (eRow e1), .c [0, 1] c1, .i ((l.length + 1) / 2), .r 28 (eRow e2), .c [0, 1] c2, .x (i := 0) (l := ptrow [u]) (xs := ofPt u) rfl, .x (i := 0) (l := ptrow [v]) (xs := ofPt v) rfl, .c [] cb, .t (by rw [hb]; rfl), .x (i := 0) (l := ptrow [v]) (xs := ofPt v) rfl, .x (i := 0) (l := ptrow [u]) (xs := ofPt u) rfl, .s (sz := 10) (l := [ofGm (v, u)]) (fun c hc => by rw [List.mem_singleton.1 hc]; rfl), .i 1] rfl (by simp [AllP, rp_len, hml2, h5]; omega)
theorem c_TPlay0 {a : Tm} (ha : Va a) {r0 : List (List LV)} : ∀ (k : Nat) (l : List Pt) (ms : List (Pt × Pt)), l.length ≤ k → l.length ≤ 1000 → ms.length + l.length ≤ 1000000 → (∀ p ∈ l, Sc p.c) → DoesD Tryz.prog 143 [.one (.ow 0 0), .agg (ta a), .one (pts l)] [.blk 86 [.bool false, .nils, .bool false, .nils, .bool false, .nils, .bool false, .nils, .bool false, .nils, .nils, .int .i64 0, .row r0, .nils, .orow 1 10 none], .row false 212 10 (gmrow ms)] [.one (.row (ptrow (play (sgA a) l).1))] [.blk 86 [.bool false, .nils, .bool false, .nils, .bool false, .nils, .bool false, .nils, .bool false, .nils, .nils, .int .i64 0, .row r0, .nils, .orow 1 10 none], .row false 212 10 (gmrow (ms ++ (play (sgA a) l).2))]
 := by
  intro k
  induction k with
  | zero => ?_
  | succ k ih => ?_
  all_goals
    intro l ms hk hn hms hl
    have hcl := rp_len l
    show DoesD Tryz.prog 143 [.one (.ow 0 0), .agg (ta a), .one (.row (ptrow l))] _ _ _
    by_cases hs : l.length < 2
    · rw [play_few _ hs, List.append_nil]
      refine fnD Tryz.func143 rfl ?_
      exact ed tt [] [0, 1] [.t (by simp [hcl]; omega)] rfl trivial
    first
      | (exfalso; omega)
      | skip
        
        obtain ⟨k1, k2, k3, k4⟩ := halves hs hk
        obtain ⟨h, hh⟩ : ∃ h, h = (l.length + 1) / 2 := ⟨_, rfl⟩
        obtain ⟨u, hu, hul, _⟩ := play_one (sgA a) k (l.take ((l.length + 1) / 2)) k1 k3
        obtain ⟨v, hv, hvl, _⟩ := play_one (sgA a) k (l.drop ((l.length + 1) / 2)) k2 k4
        have g1 := play_games (sgA a) _ (l.take ((l.length + 1) / 2)) (Nat.le_refl _)
        have g2 := play_games (sgA a) _ (l.drop ((l.length + 1) / 2)) (Nat.le_refl _)
        have hlt : (l.take ((l.length + 1) / 2)).length + (l.drop ((l.length + 1) / 2)).length = l.length := by rw [List.length_take, List.length_drop]; omega
        have c1 := ih (l.take ((l.length + 1) / 2)) ms k1 (by omega) (by omega) fun p hp => hl p (List.mem_of_mem_take hp)
        have c2 := ih (l.drop ((l.length + 1) / 2)) (ms ++ (play (sgA a) (l.take ((l.length + 1) / 2))).2) k2 (by omega) (by rw [List.length_append]; omega) fun p hp => hl p (List.mem_of_mem_drop hp)
        have hpl := play_many (sgA a) hs hu hv
        rw [hpl]
        rw [hu] at c1
        rw [hv] at c2
        generalize (play (sgA a) (l.take ((l.length + 1) / 2))).2 = G1 at *
        generalize (play (sgA a) (l.drop ((l.length + 1) / 2))).2 = G2 at *
        have hsu := hl u (List.mem_of_mem_take hul)
        have hsv := hl v (List.mem_of_mem_drop hvl)
        have cb := c_Beats (t := a) hsu hsv ha
        have htd : ((l.length : Int) + 1).tdiv 2 = (((l.length + 1) / 2 : Nat) : Int) := rfl
        have hg : ∀ m, gmrow (ms ++ (G1 ++ G2 ++ [m])) = gmrow ((ms ++ G1) ++ G2) ++ [ofGm m] := fun m => by simp [gmrow]
        have hml : (gmrow ((ms ++ G1) ++ G2)).length = ms.length + G1.length + G2.length := by simp [gmrow]; omega
        have hml2 : (gmrow (ms ++ (G1 ++ G2))).length = ms.length + G1.length + G2.length := by simp [gmrow]; omega
        have h5 := eq_true (p := ∀ z, z ∈ ptrow l → z.length = ti35.sz) (rp_five l)
        have e1 : (ptrow l).take ((l.length + 1) / 2) = ptrow (l.take ((l.length + 1) / 2)) := by simp [ptrow, List.map_take]
        have e2 : (ptrow l).drop ((l.length + 1) / 2) = ptrow (l.drop ((l.length + 1) / 2)) := by simp [ptrow, List.map_drop]
        unfold duel
        refine fnD Tryz.func143 rfl ?_
        by_cases hb : beats (sgA a) u v = true
        · rw [if_pos hb, hg]
          exact ed tt [] [0, 1] [.f (by simp [hcl]; omega), .r 17 (eI (b := (((l.length + 1) / 2 : Nat) : Int)) (by rw [hcl]; rfl)), .i ((l.length + 1) / 2), .r 22 (eRow e1), .c [0, 1] c1, .i ((l.length + 1) / 2), .r 28 (eRow e2), .c [0, 1] c2, .x (i := 0) (l := ptrow [u]) (xs := ofPt u) rfl, .x (i := 0) (l := ptrow [v]) (xs := ofPt v) rfl, .c [] cb, .f (by rw [hb]; rfl), .x (i := 0) (l := ptrow [u]) (xs := ofPt u) rfl, .x (i := 0) (l := ptrow [v]) (xs := ofPt v) rfl, .s (sz := 10) (l := [ofGm (u, v)]) (fun c hc => by rw [List.mem_singleton.1 hc]; rfl), .i 1] rfl (by simp [AllP, rp_len, hml2, h5]; omega)
        · have hb : beats (sgA a) u v = false := by simpa using hb
          rw [if_neg (by simp [hb]), hg]
          exact ed tt [] [0, 1] [.f (by simp [hcl]; omega), .r 17 (eI (b := (((l.length + 1) / 2 : Nat) : Int)) (by rw [hcl]; rfl)), .i ((l.length + 1) / 2), .r 22 (eRow e1), .c [0, 1] c1, .i ((l.length + 1) / 2), .r 28 (eRow e2), .c [0, 1] c2, .x (i := 0) (l := ptrow [u]) (xs := ofPt u) rfl, .x (i := 0) (l := ptrow [v]) (xs := ofPt v) rfl, .c [] cb, .t (by rw [hb]; rfl), .x (i := 0) (l := ptrow [v]) (xs := ofPt v) rfl, .x (i := 0) (l := ptrow [u]) (xs := ofPt u) rfl, .s (sz := 10) (l := [ofGm (v, u)]) (fun c hc => by rw [List.mem_singleton.1 hc]; rfl), .i 1] rfl (by simp [AllP, rp_len, hml2, h5]; omega)
theorem c_TBuild1 {l : List Pt} {a : Tm} {c : Cr} {r1 : List (List LV) × List (List LV)} (hl : ∀ p ∈ l, Sc p.c) (hn : l.length ≤ 1000) (ha : Va a) : DoesD Tryz.prog 84 [.one (.ow 0 0), .agg (ta a)] [.blk 86 (crl3 c (ptrow l) r1)] [.one (.row (ctrow (bcT l a)))] [.blk 86 (crl3 c (ptrow l) (brT l a))] := by
  have cp := c_TPlay1 (r0 := ptrow l) (c := c) (r1 := r1.1) ha l.length l [] (Nat.le_refl _) hn (by show 0 + l.length ≤ 1000000; omega) hl
  have hms := play_games (sgA a) l.length l (Nat.le_refl _)
  unfold bcT brT
  obtain ⟨M, hM⟩ : ∃ M, M = (play (sgA a) l).2 := ⟨_, rfl⟩
  have hmm : ∀ m ∈ M, Sc m.1.c ∧ Sc m.2.c := fun m hm => by
    rw [hM] at hm
    exact ⟨hl _ (play_mem m hm).1, hl _ (play_mem m hm).2⟩
  rw [← hM] at cp hms ⊢
  rw [List.nil_append] at cp
  have hgl : (gmrow M).length = M.length := by simp [gmrow]
  refine fnD Tryz.func84 rfl ?_
  refine go tt [] rfl trivial ?_
  refine oz 0 14 212 10 rfl rfl ?_
  refine go tt [.c [] c_List, .c [0, 2] cp, .o 5 161 7] rfl trivial ?_
  refine lp (S := Nat) 4 (fun L1 i => (29, .v (.one (.int .i64 (i : Int)))) :: (5, .v (.one (.orow 3 7 none))) :: L1) (fun i => [.blk 86 [.bool true, pl c.now.p, sg c.now.lo.num, mg c.now.lo.num, sg (c.now.lo.den : Int), mg (c.now.lo.den : Int), sg c.now.hi.num, mg c.now.hi.num, sg (c.now.hi.den : Int), mg (c.now.hi.den : Int), .row (wrow c.l), .int .i64 c.ev, .row (ptrow l), .row (ptrow (play (sgA a) l).1), .orow 2 10 none], .blk 67 (ta a), .row false 212 10 (gmrow M), .row false 161 7 (ctrow ((M.map fun m => mkMatch (sgA a) m.1 m.2).take i))]) (fun i => M.length - i) (fun i => i ≤ M.length) 0 (Nat.zero_le _) rfl (fun _ _ => rfl) rfl fun i hi => ?_
  by_cases hlt : i < M.length
  · obtain ⟨m, hm⟩ : ∃ m, M[i]? = some m := ⟨_, List.getElem?_eq_getElem hlt⟩
    obtain ⟨s1, s2⟩ := hmm m (List.mem_of_getElem? hm)
    have hg : (gmrow M)[i]? = some (ofGm m) := map_get hm
    have hq : ∀ y ∈ [ofCt (mkMatch (sgA a) m.1 m.2)], y.length = 7 := fun y hy => by rw [List.mem_singleton.1 hy]; rfl
    have ht : (M.map fun m => mkMatch (sgA a) m.1 m.2).take (i + 1) = (M.map fun m => mkMatch (sgA a) m.1 m.2).take i ++ [mkMatch (sgA a) m.1 m.2] := by
      rw [List.take_succ, List.getElem?_map, hm]; rfl
    refine go tt [.t (decide_eq_true (by omega)), .i i, .x hg, .i 0, .i 1, .c [] (c_MakeM s1 s2 ha), .s (sz := 7) hq] rfl (by simp [AllP, hgl, ct_len]; omega) ?_
    exact rd (i + 1) (by omega) hlt (by rw [ht]; simp [ctrow]; rfl)
  · obtain rfl : i = M.length := by omega
    rw [List.take_of_length_le (by simp)]
    exact ed tt [2, 3] [0] [.f (decide_eq_false (by omega))] rfl trivial
theorem c_TBuild0 {l : List Pt} {a : Tm} (hl : ∀ p ∈ l, Sc p.c) (hn : l.length ≤ 1000) (ha : Va a) : DoesD Tryz.prog 84 [.one (.ow 0 0), .agg (ta a)] [.blk 86 (crz3 (.row (ptrow l)) (.nils, .nils))] [.one (.row (ctrow (bcT l a)))] [.blk 86 (crz3 (.row (ptrow l)) (.row (brT l a).1, .row (brT l a).2))] := by
  have cp := c_TPlay0 (r0 := ptrow l)  ha l.length l [] (Nat.le_refl _) hn (by show 0 + l.length ≤ 1000000; omega) hl
  have hms := play_games (sgA a) l.length l (Nat.le_refl _)
  unfold bcT brT
  obtain ⟨M, hM⟩ : ∃ M, M = (play (sgA a) l).2 := ⟨_, rfl⟩
  have hmm : ∀ m ∈ M, Sc m.1.c ∧ Sc m.2.c := fun m hm => by
    rw [hM] at hm
    exact ⟨hl _ (play_mem m hm).1, hl _ (play_mem m hm).2⟩
  rw [← hM] at cp hms ⊢
  rw [List.nil_append] at cp
  have hgl : (gmrow M).length = M.length := by simp [gmrow]
  refine fnD Tryz.func84 rfl ?_
  refine go tt [] rfl trivial ?_
  refine oz 0 14 212 10 rfl rfl ?_
  refine go tt [.c [] c_List, .c [0, 2] cp, .o 5 161 7] rfl trivial ?_
  refine lp (S := Nat) 4 (fun L1 i => (29, .v (.one (.int .i64 (i : Int)))) :: (5, .v (.one (.orow 3 7 none))) :: L1) (fun i => [.blk 86 [.bool false, .nils, .bool false, .nils, .bool false, .nils, .bool false, .nils, .bool false, .nils, .nils, .int .i64 0, .row (ptrow l), .row (ptrow (play (sgA a) l).1), .orow 2 10 none], .blk 67 (ta a), .row false 212 10 (gmrow M), .row false 161 7 (ctrow ((M.map fun m => mkMatch (sgA a) m.1 m.2).take i))]) (fun i => M.length - i) (fun i => i ≤ M.length) 0 (Nat.zero_le _) rfl (fun _ _ => rfl) rfl fun i hi => ?_
  by_cases hlt : i < M.length
  · obtain ⟨m, hm⟩ : ∃ m, M[i]? = some m := ⟨_, List.getElem?_eq_getElem hlt⟩
    obtain ⟨s1, s2⟩ := hmm m (List.mem_of_getElem? hm)
    have hg : (gmrow M)[i]? = some (ofGm m) := map_get hm
    have hq : ∀ y ∈ [ofCt (mkMatch (sgA a) m.1 m.2)], y.length = 7 := fun y hy => by rw [List.mem_singleton.1 hy]; rfl
    have ht : (M.map fun m => mkMatch (sgA a) m.1 m.2).take (i + 1) = (M.map fun m => mkMatch (sgA a) m.1 m.2).take i ++ [mkMatch (sgA a) m.1 m.2] := by
      rw [List.take_succ, List.getElem?_map, hm]; rfl
    refine go tt [.t (decide_eq_true (by omega)), .i i, .x hg, .i 0, .i 1, .c [] (c_MakeM s1 s2 ha), .s (sz := 7) hq] rfl (by simp [AllP, hgl, ct_len]; omega) ?_
    exact rd (i + 1) (by omega) hlt (by rw [ht]; simp [ctrow]; rfl)
  · obtain rfl : i = M.length := by omega
    rw [List.take_of_length_le (by simp)]
    exact ed tt [2, 3] [0] [.f (decide_eq_false (by omega))] rfl trivial
end Orr

namespace Orq
open Orr Go
/-- nothing happens from a on, up to b -/
structure Quiet {β : Type} (Bc : Tm → List Ct) (Br : Tm → β) (a b : Tm) : Prop where
  va : Va a
  vb : Va b
  le : ¬ TLt b a
  n : ∀ x ∈ Bc a, ∃ o, NxtOk x.p a o ∧ ∀ u, o = some u → TLt b u
section
variable {β : Type} {Bc : Tm → List Ct} {Br : Tm → β} (S : Stab Bc Br)
include S
theorem Quiet.same {a b : Tm} (h : Quiet Bc Br a b) : Bc b = Bc a ∧ Br b = Br a := by
  refine S.st a b h.va h.vb fun x hx => ?_
  obtain ⟨o, o1, o2⟩ := h.n x hx
  exact germ_same (S.ok.p _ h.va _ hx).dp h.va h.vb h.le o1 o2
end
theorem tms_len {p : List Int} (h : Cp p) : (tms p).length ≤ 67 := by
  obtain ⟨l, l1, l2, _⟩ := turns_ok h
  unfold tms; rw [l1]; exact l2
theorem tms_all : ∀ {Ps : List (List Int)}, (∀ p ∈ Ps, Cp p) → (Ps.flatMap tms).length ≤ 67 * Ps.length
  | [], _ => Nat.zero_le _
  | p :: Ps, h => by
    have h1 := tms_len (h p (by simp))
    have h2 := tms_all (Ps := Ps) fun q hq => h q (List.mem_cons_of_mem _ hq)
    rw [List.flatMap_cons, List.length_append, List.length_cons]; omega
theorem mu_le (T : List Tm) (a : Tm) : mu T a ≤ T.length := List.length_filter_le _ _
/-- an advance, from any state that is right -/
theorem adv_ok {β : Type} {Bc : Tm → List Ct} {Br : Tm → β} (S : Stab Bc Br) {Ps : List (List Int)} (hP : ∀ p ∈ Ps, Cp p) (hPs : ∀ a, Va a → ∀ x ∈ Bc a, x.p ∈ Ps) (hl : Ps.length ≤ 1000000) {t : Rat} (ht : Qs 900 t) {c : Cr} {r : β} (hS : KSt Bc Br c r) (h : cmpR c.now t ≤ 0) :
    ∃ (K : Nat) (c' : Cr) (E : List Tm), K ≤ 67000001 ∧ goF Bc Br t K c r 0 = some (c', Br (tq t), ((E.length : Nat) : Int)) ∧ c'.now = tq t ∧ KSt Bc Br c' (Br (tq t)) ∧ c'.ev = c.ev + ((E.length : Nat) : Int) ∧ E.length ≤ 67000000 ∧ Evs Bc t c.now E := by
  have hm := tms_all hP
  have hmu := mu_le (Ps.flatMap tms) c.now
  have hv := hS.inv.ok.n
  obtain ⟨c', r', E, g1, g2, g3, g4, g5, g6⟩ := go_ok S ht hP hPs (mu (Ps.flatMap tms) c.now) c r 0 (Nat.le_refl _) hS fun h' => by
    have := (cmp_tq hv.cut).2 h'; omega
  have hr : r' = Br (tq t) := by rw [g3.r, g2]
  rw [hr] at g1 g3
  rw [Int.zero_add] at g1
  exact ⟨_, c', E, by omega, g1, g2, g3, g4, by omega, g6⟩
theorem beg_st {β : Type} {Bc : Tm → List Ct} {Br : Tm → β} (S : Stab Bc Br) {a : Tm} (ha : Va a) : KSt Bc Br ⟨a, (sortC (Bc a)).map fresh, 0⟩ (Br a) := by
  refine ⟨⟨⟨ha, fun w hw => ?_, ?_⟩, fun w hw hk => ?_⟩, ?_, rfl⟩
  · obtain ⟨x, hx, rfl⟩ := List.mem_map.1 hw
    exact ⟨S.ok.p _ ha x (sortC_mem hx), fun t ht => by cases ht⟩
  · show ((sortC (Bc a)).map fresh).length ≤ 1000
    rw [List.length_map, sortC_len]; exact S.ok.n _ ha
  · obtain ⟨x, hx, rfl⟩ := List.mem_map.1 hw
    cases hk
  · show ((sortC (Bc a)).map fresh).map (·.c) = sortC (Bc a)
    rw [List.map_map]
    show (sortC (Bc a)).map (fun x => x) = _
    rw [List.map_id']
end Orq

namespace Orr
open Go Go.Proofs Orq
set_option maxRecDepth 10000
/-- a tournament that has begun at a time -/
def begT (l : List Pt) (a : Tm) : Cr := ⟨a, (sortC (bcT l a)).map fresh, 0⟩
theorem c_ToNew {zs : List (List LV)} {qs l : List Pt} {x y x' y' : LV} {n d : Int} (hz : IsPts 4294967294 1073741824 zs qs) (hq : qs.length ≤ 6) (hnl : newL [] qs = (l, 0)) (hl : ∀ p ∈ l, Sc p.c) (hn : l.length ≤ 1000) (h1 : IsInt x y n) (h2 : IsInt x' y' d) (bn : isz n ≤ 4294967295) (bd : isz d ≤ 4294967295) (ht : Qs 900 (ratOf n d)) :
    DoesD Tryz.prog 26 [.agg [x, y, x', y'], .one (.row zs)] [] [.one (.ow 0 0), .one (.int .i64 0)] [.blk 86 (crl3 (begT l (tq (ratOf n d))) (ptrow l) (brT l (tq (ratOf n d))))] := by
  have cn := c_New hz hq
  rw [hnl] at cn
  have co := c_aOf h1 h2 bn bd (ht.mono (by decide))
  have hv := va_q ht
  have hB := bcT_ok hl hn
  have cb := c_TBuild0 hl hn hv
  have cg := c_TBegin0 (T := 86) (r0 := ptrow l) (r1 := brT l (tq (ratOf n d))) hv (hB.p _ hv) (hB.n _ hv)
  obtain ⟨b, l1, rfl, rfl, _⟩ := h1
  obtain ⟨b', l2, rfl, rfl, _⟩ := h2
  refine fnD Tryz.func26 rfl ?_
  exact ed tt [] [2] [.c [] cn, .f rfl, .c [] co, .c [2] cb, .c [2] cg] rfl trivial
theorem c_ToAdv {t : Rat} {l : List Pt} {K : Nat} {c c' : Cr} {r1 r1' : List (List LV) × List (List LV)} {n : Int} (ht : Qs 900 t) (hl : ∀ p ∈ l, Sc p.c) (hn : l.length ≤ 1000) (hc : CrOk c) (hev : 0 ≤ c.ev ∧ c.ev + K ≤ 1000000000000000000) (h : cmpR c.now t ≤ 0) (hg : goF (bcT l) (brT l) t K c r1 0 = some (c', r1', n)) :
    DoesD Tryz.prog 27 [.one (.ow 0 0), .agg (rl t)] [.blk 86 (crl3 c (ptrow l) r1)] [.one (.int .i64 n), .one (.int .i64 0)] [.blk 86 (crl3 c' (ptrow l) r1')] := by
  have cg := c_TGo (T := 86) (r0 := ptrow l) ht (bcT_ok hl hn) (fun a c r1 ha _ => c_TBuild1 (c := c) (r1 := r1) hl hn ha) hc hev h hg
  refine fnD Tryz.func27 rfl ?_
  exact ed tt [] [0] [.c [] (c_rMaxQ (ht.mono (by decide))), .c [0] cg] rfl trivial
theorem c_ToWin {c : Cr} {r0 r2 : List (List LV)} {w : Pt} : DoesD Tryz.prog 28 [.one (.ow 0 0)] [.blk 86 (crl3 c r0 ([ofPt w], r2))] [.one (.int .i64 w.id), .one (.bool true)] [.blk 86 (crl3 c r0 ([ofPt w], r2))] := by
  refine fnD Tryz.func28 rfl ?_
  exact ed tt [] [0] [.f rfl, .x (i := 0) (xs := ofPt w) rfl] rfl trivial
theorem c_ToWin0 {c : Cr} {r0 r2 : List (List LV)} : DoesD Tryz.prog 28 [.one (.ow 0 0)] [.blk 86 (crl3 c r0 ([], r2))] [.one (.int .i64 0), .one (.bool false)] [.blk 86 (crl3 c r0 ([], r2))] := by
  refine fnD Tryz.func28 rfl ?_
  exact ed tt [] [0] [.t rfl] rfl trivial
end Orr

namespace Orr
def SortedP (l : List Pt) : Prop := l.Pairwise fun a b => a.id < b.id
theorem has_nil (id : Int) : has [] id = false := rfl
theorem has_cons (p : Pt) (l : List Pt) (id : Int) : has (p :: l) id = if p.id < id then has l id else decide (p.id = id) := by
  by_cases h : p.id < id
  · rw [if_pos h]; unfold has; simp only [pos]; rw [if_pos h]; simp
  · rw [if_neg h]; unfold has; simp only [pos]; rw [if_neg h]; simp
theorem put_cons (p : Pt) (l : List Pt) (q : Pt) : put (p :: l) q = if p.id < q.id then p :: put l q else q :: p :: l := by
  unfold put
  simp only [pos]
  split <;> simp
theorem has_iff : ∀ {l : List Pt} {id : Int}, SortedP l → (has l id = true ↔ ∃ p ∈ l, p.id = id)
  | [], id, _ => by simp [has_nil]
  | p :: l, id, h => by
    have h1 := List.pairwise_cons.1 h
    rw [has_cons]
    split
    · rename_i hlt
      rw [has_iff h1.2]
      constructor
      · rintro ⟨x, hx, e⟩; exact ⟨x, List.mem_cons_of_mem _ hx, e⟩
      · rintro ⟨x, hx, e⟩
        rcases List.mem_cons.1 hx with rfl | hx
        · omega
        · exact ⟨x, hx, e⟩
    · rename_i hge
      rw [decide_eq_true_iff]
      constructor
      · intro e; exact ⟨p, List.mem_cons_self .., e⟩
      · rintro ⟨x, hx, e⟩
        rcases List.mem_cons.1 hx with rfl | hx
        · exact e
        · have := h1.1 x hx; omega
theorem putE_few {l : List Pt} {q : Pt} (h : l.length < 6) : putE l q = if has l q.id = true then 6 else 0 := by
  unfold putE
  split
  · rfl
  · rw [if_neg (by omega)]
end Orr

namespace Orr
open Orq
theorem put_first {l : List Pt} {q : Pt} (h : ∀ p ∈ l, q.id < p.id) : put l q = q :: l := by
  cases l with
  | nil => rfl
  | cons p l => rw [put_cons, if_neg (by have := h p (by simp); omega)]
theorem newL_desc : ∀ (qs acc : List Pt), SortedP (qs.reverse ++ acc) → (qs.reverse ++ acc).length ≤ 6 → newL acc qs = (qs.reverse ++ acc, 0)
  | [], acc, _, _ => rfl
  | q :: qs, acc, hs, hl => by
    rw [List.reverse_cons, List.append_assoc] at hs hl ⊢
    obtain ⟨h1, h2, h3⟩ := List.pairwise_append.1 hs
    have h2' := List.pairwise_cons.1 h2
    have ha : ∀ p ∈ acc, q.id < p.id := h2'.1
    have he : putE acc q = 0 := by
      rw [putE_few (by simp at hl; omega)]
      have : has acc q.id = false := by
        cases h : has acc q.id
        · rfl
        · obtain ⟨p, hp, e⟩ := (has_iff h2'.2).1 h
          have := ha p hp; omega
      rw [this]; rfl
    simp only [newL]
    rw [if_pos he, put_first ha, newL_desc qs (q :: acc) hs hl]
    rfl
end Orr
namespace Orq
open Orr Go
def rpt (s : List Int) (i : Nat) : Pt := ⟨⟨trim [(i : Int)], trim [s.getD i 0, (i : Int)], 1⟩, 10 - (i : Int)⟩
def rpts (s : List Int) (n : Nat) : List Pt := (List.range n).map (rpt s)
theorem rpts_len (s : List Int) (n : Nat) : (rpts s n).length = n := by simp [rpts]
theorem rpts_new (s : List Int) {n : Nat} (h : n ≤ 6) : newL [] (rpts s n) = ((rpts s n).reverse, 0) := by
  have := newL_desc (rpts s n) [] (by
    rw [List.append_nil]
    unfold SortedP rpts
    rw [List.pairwise_reverse, List.pairwise_map]
    exact List.Pairwise.imp (fun {a b} h => by show 10 - (b : Int) < 10 - (a : Int); omega) (List.pairwise_lt_range (n := n))) (by rw [List.append_nil, List.length_reverse, rpts_len]; exact h)
  rw [List.append_nil] at this; exact this
theorem rpts_pw (s : List Int) (n : Nat) : (rpts s n).reverse.Pairwise fun x y => x.id ≠ y.id := by
  unfold rpts
  rw [List.pairwise_reverse, List.pairwise_map]
  exact List.Pairwise.imp (fun {a b} h => by show 10 - (b : Int) ≠ 10 - (a : Int); omega) (List.pairwise_lt_range (n := n))
theorem bd_small' {l : List Int} (h : ∀ z ∈ l, z.natAbs < 2 ^ 60) : Bd 80 l := fun z hz => by
  have := h z hz
  exact Nat.le_trans (isz_le.2 (by omega : z.natAbs < 2 ^ 60)) (by decide)
theorem nml_one {x y : List Int} (hx : Trim x) (hy : Trim y) : Nml ⟨x, y, 1⟩ := by
  refine ⟨hx, hy, by show (0 : Int) < 1; decide, ?_⟩
  have := gcdL_dvd (l := (1 : Int) :: (x ++ y)) 1 (List.mem_cons_self ..)
  have := Int.ofNat_dvd_left.1 this
  simpa using this
theorem rpt_sc {s : List Int} {i : Nat} (hs : ∀ z ∈ s, 0 ≤ z ∧ z < 30) (hi : i < 5) : Sc (rpt s i).c := by
  have h0 := getD_bd (by decide) hs i
  refine ⟨nml_one (trim_trim _) (trim_trim _), ⟨bd_trim (bd_mono (bd_small' fun z hz => ?_) (by decide)), bd_trim (bd_mono (bd_small' fun z hz => ?_) (by decide)), by show isz 1 ≤ 90; decide, Nat.le_trans (trim_len _) (by simp), Nat.le_trans (trim_len _) (by simp)⟩⟩
  · simp only [List.mem_cons, List.not_mem_nil, or_false] at hz; omega
  · simp only [List.mem_cons, List.not_mem_nil, or_false] at hz; omega
theorem rpts_sc {s : List Int} (hs : ∀ z ∈ s, 0 ≤ z ∧ z < 30) {n : Nat} (hn : n ≤ 5) : ∀ p ∈ (rpts s n).reverse, Sc p.c := fun p hp => by
  obtain ⟨i, hi, rfl⟩ := List.mem_map.1 (List.mem_reverse.1 hp)
  have := List.mem_range.1 hi
  exact rpt_sc hs (by omega)
theorem py_rpt (s : List Int) (i : Nat) (q : Rat) : py (rpt s i) q = ((s.getD i 0 : Int) : Rat) + ((i : Nat) : Rat) * q := by
  unfold py rpt
  show pev (trim [s.getD i 0, (i : Int)]) q / ((1 : Int) : Rat) = _
  rw [pev_trim]
  simp only [pev]
  rw [show (((i : Nat) : Int) : Rat) = ((i : Nat) : Rat) from rfl, show ((1 : Int) : Rat) = 1 from rfl, Rat.div_def]
  have := inv1
  rw [this]; grind
theorem natlt' {i j : Nat} (h : i < j) : ((i : Nat) : Rat) + 1 ≤ ((j : Nat) : Rat) := by
  have : ((i + 1 : Nat) : Rat) ≤ ((j : Nat) : Rat) := Rat.natCast_le_natCast.2 h
  simpa using this
/-- who wins at a whole time: the highest one; of those the fastest -/
theorem rise_win {s : List Int} (hs : ∀ z ∈ s, 0 ≤ z ∧ z < 30) {n : Nat} (hn : n ≤ 5) (h0 : 0 < n) {t : Int} (ht : Qs 900 (t : Rat)) : ∃ i, i < n ∧ (play (sgA (tq (t : Rat))) (rpts s n).reverse).1 = [rpt s i] ∧ ∀ j, j < n → j ≠ i → s.getD j 0 + j * t < s.getD i 0 + i * t ∨ s.getD j 0 + j * t = s.getD i 0 + i * t ∧ j < i := by
  have hsc := rpts_sc hs hn
  have hd := rpts_pw s n
  obtain ⟨y, y1, y2⟩ := beat_lex hsc (va_q ht)
  have tgt : ∀ {t q : Rat}, cmpR (tq t) q = -1 ↔ t < q := fun {t q} => by
    rw [tq_pt]; rcases cmpQ_val t q with ⟨e, h⟩ | ⟨e, h⟩ | ⟨e, h⟩ <;> grind
  have y1 := tgt.1 y1
  obtain ⟨q, hq⟩ : ∃ q : Rat, q = if y ≤ (t : Rat) + 1 / 8 then y else (t : Rat) + 1 / 8 := ⟨_, rfl⟩
  have q1 : (t : Rat) < q := by grind
  have q2 : q ≤ y := by grind
  have q3 : q ≤ (t : Rat) + 1 / 8 := by grind
  have hb := y2 q (tgt.2 q1) q2
  obtain ⟨a, a1, a2, a3⟩ := play_best (sa := sgA (tq (t : Rat))) (R := lexB q) (lexB_tr q) (rpts s n).reverse.length (rpts s n).reverse (Nat.le_refl _) (by rw [List.length_reverse, rpts_len]; exact h0) hd fun u hu v hv hne => ⟨(hb u hu v hv).1, fun hf => lexB_tot hne fun h => by
    rw [(hb u hu v hv).2 h] at hf; cases hf⟩
  obtain ⟨i, hi, rfl⟩ := List.mem_map.1 (List.mem_reverse.1 a2)
  have hi := List.mem_range.1 hi
  refine ⟨i, hi, a1, fun j hj hji => ?_⟩
  have hlex : lexB q (rpt s i) (rpt s j) := by
    rcases a3 (rpt s j) (List.mem_reverse.2 (List.mem_map.2 ⟨j, List.mem_range.2 hj, rfl⟩)) with h | h
    · exfalso
      have : (rpt s j).id = (rpt s i).id := by rw [h]
      have : 10 - (j : Int) = 10 - (i : Int) := this
      omega
    · exact h
  have hle : py (rpt s j) q ≤ py (rpt s i) q := by unfold lexB at hlex; grind
  rw [py_rpt, py_rpt] at hle
  obtain ⟨A, hA⟩ : ∃ A : Int, A = s.getD i 0 + i * t := ⟨_, rfl⟩
  obtain ⟨B, hB⟩ : ∃ B : Int, B = s.getD j 0 + j * t := ⟨_, rfl⟩
  have cA : (A : Rat) = ((s.getD i 0 : Int) : Rat) + ((i : Nat) : Rat) * (t : Rat) := by rw [hA, Rat.intCast_add, Rat.intCast_mul]; rfl
  have cB : (B : Rat) = ((s.getD j 0 : Int) : Rat) + ((j : Nat) : Rat) * (t : Rat) := by rw [hB, Rat.intCast_add, Rat.intCast_mul]; rfl
  rw [← hA, ← hB]
  obtain ⟨d, hd⟩ : ∃ d : Rat, d = q - t := ⟨_, rfl⟩
  have d0 : 0 < d := by grind
  have d1 : d ≤ 1 / 8 := by grind
  have hle' : (B : Rat) + ((j : Nat) : Rat) * d ≤ (A : Rat) + ((i : Nat) : Rat) * d := by rw [cA, cB, hd]; grind
  have i0 : (0 : Rat) ≤ ((i : Nat) : Rat) := by exact_mod_cast Nat.zero_le i
  have j0 : (0 : Rat) ≤ ((j : Nat) : Rat) := by exact_mod_cast Nat.zero_le j
  have i4 : ((i : Nat) : Rat) ≤ 4 := by
    have : ((i : Nat) : Rat) ≤ ((4 : Nat) : Rat) := Rat.natCast_le_natCast.2 (by omega)
    exact this
  rcases Int.lt_trichotomy B A with h1 | h1 | h1
  · exact .inl h1
  · right
    refine ⟨h1, ?_⟩
    subst h1
    rcases Nat.lt_or_ge j i with h2 | h2
    · exact h2
    · exfalso
      have := natlt' (show i < j by omega)
      have := Rat.mul_pos d0 (show (0 : Rat) < ((j : Nat) : Rat) - ((i : Nat) : Rat) by grind)
      grind
  · exfalso
    have h2 : (A : Rat) + 1 ≤ (B : Rat) := by
      have : ((A + 1 : Int) : Rat) ≤ (B : Rat) := Rat.intCast_le_intCast.2 (by omega)
      rw [Rat.intCast_add] at this; exact this
    have h3 : 0 ≤ ((j : Nat) : Rat) * d := Rat.mul_nonneg j0 (by grind)
    have h4 : ((i : Nat) : Rat) * d ≤ 4 * (1 / 8) := by
      have := Rat.mul_nonneg (show (0 : Rat) ≤ 4 - ((i : Nat) : Rat) by grind) (show 0 ≤ d by grind)
      grind
    grind
end Orq

namespace Orr
open Go
def dvv : List Nat → Nat
  | [] => 0
  | x :: l => x + 10000 * dvv l
def Dg (l : List Nat) : Prop := ∀ x ∈ l, x < 10000
def dcs (x : Nat) : List Nat := if h : x = 0 then [] else (x % 10000) :: dcs (x / 10000)
termination_by x
decreasing_by omega
theorem dcs_zero : dcs 0 = [] := by unfold dcs; simp
theorem dcs_pos {x : Nat} (h : x ≠ 0) : dcs x = (x % 10000) :: dcs (x / 10000) := by rw [dcs]; simp [h]
theorem dvv_dig (x : Nat) : dvv (dcs x) = x := by
  induction x using Nat.strongRecOn with
  | _ x ih =>
    rcases Nat.eq_zero_or_pos x with h | h
    · subst h; rw [dcs_zero]; rfl
    · rw [dcs_pos (by omega)]
      simp only [dvv]
      rw [ih _ (by omega)]; omega
theorem dcs_lt (x : Nat) : Dg (dcs x) := by
  induction x using Nat.strongRecOn with
  | _ x ih =>
    rcases Nat.eq_zero_or_pos x with h | h
    · subst h; rw [dcs_zero]; intro y hy; cases hy
    · rw [dcs_pos (by omega)]
      intro y hy
      rcases List.mem_cons.1 hy with rfl | hy
      · omega
      · exact ih _ (by omega) y hy
theorem dcs_nil {x : Nat} : (dcs x).length = 0 ↔ x = 0 := by
  constructor
  · intro h
    have h0 := List.eq_nil_of_length_eq_zero h
    have := dvv_dig x
    rw [h0] at this
    exact this.symm
  · rintro rfl; rw [dcs_zero]; rfl
theorem dcs_div {x : Nat} (h : x ≠ 0) : (dcs (x / 10000)).length + 1 = (dcs x).length := by rw [dcs_pos h]; rfl
theorem dcs_len (x : Nat) : (dcs x).length ≤ sz x := by
  induction x using Nat.strongRecOn with
  | _ x ih =>
    by_cases h0 : x = 0
    · subst h0; rw [dcs_zero]; exact Nat.zero_le _
    · have h1 := dcs_div h0
      have h2 := ih (x / 10000) (by omega)
      have h3 : sz (x / 10000) + 1 ≤ sz x := by
        have h4 : x < 2 ^ sz x := lt_sz x
        rcases hs : sz x with _ | k
        · rw [hs] at h4; simp at h4; omega
        · rw [hs] at h4
          have : sz (x / 10000) ≤ k := sz_le.2 (by rw [Nat.pow_succ] at h4; omega)
          omega
      omega
theorem dvv_append (a b : List Nat) : dvv (a ++ b) = dvv a + 10000 ^ a.length * dvv b := by
  induction a with
  | nil => simp [dvv]
  | cons x a ih =>
    simp only [List.cons_append, dvv, ih, List.length_cons, Nat.pow_succ]
    rw [Nat.mul_add, ← Nat.mul_assoc, Nat.mul_comm 10000 (10000 ^ a.length)]; omega
theorem dvv_zero : ∀ {l : List Nat}, (∀ x ∈ l, x = 0) → dvv l = 0
  | [], _ => rfl
  | x :: l, h => by
    have h1 := h x (List.mem_cons_self ..)
    have h2 := dvv_zero (l := l) fun y hy => h y (List.mem_cons_of_mem _ hy)
    simp [dvv, h1, h2]
theorem Dg.take {l : List Nat} (h : Dg l) (k : Nat) : Dg (l.take k) := fun x hx => h x (List.mem_of_mem_take hx)
theorem Dg.snoc {l : List Nat} (h : Dg l) {x : Nat} (hx : x < 10000) : Dg (l ++ [x]) := by
  intro y hy
  rcases List.mem_append.1 hy with hy | hy
  · exact h y hy
  · rw [List.mem_singleton.1 hy]; exact hx
theorem Dg.nil : Dg [] := fun x h => by cases h
/-- a row without a nought on top is that of its number -/
theorem dcs_of : ∀ {l : List Nat}, Dg l → (∀ x, l[l.length - 1]? = some x → x ≠ 0) → l = dcs (dvv l)
  | [], _, _ => by rw [dvv, dcs_zero]
  | x :: l, h, hl => by
    have h1 := h x (List.mem_cons_self ..)
    have h2 : l = dcs (dvv l) := dcs_of (fun y hy => h y (List.mem_cons_of_mem _ hy)) fun y hy => hl y (by
      rcases l with _ | ⟨z, t⟩
      · simp at hy
      · simpa using hy)
    have h3 : x + 10000 * dvv l ≠ 0 := by
      intro e
      have hx : x = 0 := by omega
      have hd : dvv l = 0 := by omega
      rw [hd, dcs_zero] at h2
      subst h2
      exact hl x rfl hx
    simp only [dvv]
    rw [dcs_pos h3, show (x + 10000 * dvv l) % 10000 = x by omega, show (x + 10000 * dvv l) / 10000 = dvv l by omega, ← h2]
theorem dcs_take {l : List Nat} {m : Nat} (hd : Dg l) (hm : m ≤ l.length) (h1 : ∀ j x, m ≤ j → l[j]? = some x → x = 0) (h2 : 0 < m → ∃ y, l[m - 1]? = some y ∧ y ≠ 0) : l.take m = dcs (dvv l) := by
  have e : dvv l = dvv (l.take m) := by
    conv => lhs; rw [← List.take_append_drop m l, dvv_append]
    rw [dvv_zero (l := l.drop m) fun x hx => ?_]
    · omega
    · obtain ⟨j, hj⟩ := List.mem_iff_getElem?.1 hx
      rw [List.getElem?_drop] at hj
      exact h1 (m + j) x (by omega) hj
  rw [e]
  refine dcs_of (hd.take m) fun x hx => ?_
  have hl : (l.take m).length = m := by rw [List.length_take]; omega
  rw [hl] at hx
  rcases Nat.eq_zero_or_pos m with h0 | h0
  · subst h0; simp at hx
  · obtain ⟨y, hy, hy0⟩ := h2 h0
    rw [List.getElem?_take_of_lt (by omega), hy] at hx
    injection hx with hx; rw [← hx]; exact hy0
theorem dvv_drop {l : List Nat} {j d : Nat} (h : l[j]? = some d) : dvv (l.drop j) = d + 10000 * dvv (l.drop (j + 1)) := by
  obtain ⟨hj, he⟩ := List.getElem?_eq_some_iff.1 h
  rw [List.drop_eq_getElem_cons hj, he]; rfl
theorem ddrop_set {l : List Nat} {j y : Nat} (h : j < l.length) : (l.set j y).drop j = y :: l.drop (j + 1) := by
  rw [List.drop_eq_getElem_cons (by simpa using h)]
  simp only [List.getElem_set_self]
  rw [List.drop_set_of_lt (by omega)]
theorem Dg.set {l : List Nat} (h : Dg l) {j y : Nat} (hy : y < 10000) : Dg (l.set j y) := by
  intro x hx
  rcases List.mem_or_eq_of_mem_set hx with hx | rfl
  · exact h x hx
  · exact hy
theorem Dg.zeros (n : Nat) : Dg (List.replicate n 0) := by
  intro x hx; rw [List.eq_of_mem_replicate hx]; decide
/-- one step of a division from above -/
theorem div_step {V kd d : Nat} (hk : 0 < kd) : (d + 10000 * V) / kd = (V % kd * 10000 + d) / kd + 10000 * (V / kd) ∧ (d + 10000 * V) % kd = (V % kd * 10000 + d) % kd ∧ (d < 10000 → (V % kd * 10000 + d) / kd < 10000) := by
  have e := Nat.div_add_mod V kd
  have e2 : d + 10000 * V = (V % kd * 10000 + d) + kd * (10000 * (V / kd)) := by
    conv => lhs; rw [← e]
    grind
  refine ⟨?_, ?_, fun hd => ?_⟩
  · rw [e2, Nat.add_mul_div_left _ _ hk]
  · rw [e2, Nat.add_mul_mod_self_left]
  · have := Nat.mod_lt V hk
    exact (Nat.div_lt_iff_lt_mul hk).2 (by grind)
/-- a row of digits, as a leaf -/
def dl (l : List Nat) : LV := .row (l.map fun (x : Nat) => [.int .i64 (x : Int)])
theorem dlm_len (l : List Nat) : (l.map fun (x : Nat) => [LV.int .i64 (x : Int)]).length = l.length := by simp
theorem dlm_get {l : List Nat} {i x : Nat} (h : l[i]? = some x) : (l.map fun (x : Nat) => [LV.int .i64 (x : Int)])[i]? = some [.int .i64 (x : Int)] := by rw [List.getElem?_map, h]; rfl
abbrev nd (x : Nat) : LV := dl (dcs x)
end Orr

namespace Orr
open Go Go.Proofs
set_option maxRecDepth 10000
abbrev dlm (l : List Nat) : List (List LV) := l.map fun (x : Nat) => [.int .i64 (x : Int)]
theorem c_fcut {l : List Nat} (hd : Dg l) : Does Tryz.prog 162 [.one (.row (dlm l))] [.one (nd (dvv l))] := by
  refine fnD Tryz.func162 rfl (ln 0 rfl rfl fun hl => ?_)
  rw [List.length_map] at hl
  refine go tt [] rfl trivial ?_
  refine lp (S := Nat) 0 (fun L1 n => (3, .v (.one (.int .i64 (n : Int)))) :: L1) (fun _ => []) id (fun n => n ≤ l.length ∧ ∀ j x, n ≤ j → l[j]? = some x → x = 0) (dlm l).length ⟨by simp, fun j x h1 h2 => by
    have := (List.getElem?_eq_some_iff.1 h2).1; simp at h1; omega⟩ rfl (fun _ _ => rfl) rfl fun n ⟨h1, h2⟩ => ?_
  cases n with
  | zero => exact en tt [.g 8 false (by simp), .f rfl, .i 0] rfl (by have := dcs_take hd h1 h2 (fun h => by omega); unfold nd; rw [← this]; simp [dl]) (by simp [AllP])
  | succ n =>
    obtain ⟨x, hx⟩ : ∃ x, l[n]? = some x := ⟨_, List.getElem?_eq_getElem (by omega)⟩
    by_cases h0 : x = 0
    · refine go tt [.g 8 true (by simp), .r 11 (v := .one (.int .i64 (n : Int))) (by simp), .x (dlm_get hx), .t (by simp [h0]), .r 17 (v := .one (.int .i64 (n : Int))) (by simp)] rfl (by simp [AllP]; omega) ?_
      exact rd n (by simp) ⟨by omega, fun j y h3 h4 => by
          rcases Nat.eq_or_lt_of_le h3 with rfl | h3
          · rw [hx] at h4; injection h4 with h4; rw [← h4, h0]
          · exact h2 j y h3 h4⟩ rfl
    · exact en tt [.g 8 true (by simp), .r 11 (v := .one (.int .i64 (n : Int))) (by simp), .x (dlm_get hx), .f (by simp [h0]), .i (n + 1)] rfl (by have := dcs_take hd h1 h2 (fun _ => ⟨x, hx, h0⟩); unfold nd; rw [← this]; simp [dl, List.map_take]) (by simp [AllP] <;> omega)
/-- a division by a small number -/
theorem c_small {x kd : Nat} (hxs : sz x ≤ 100000000) (hk : 0 < kd ∧ kd ≤ 65536) : Does Tryz.prog 161 [.one (nd x), .one (.int .i64 (kd : Int))] [.one (nd (x / kd)), .one (.int .i64 ((x % kd : Nat) : Int))] := by
  have hln := Nat.le_trans (dcs_len x) hxs
  obtain ⟨l, hl⟩ : ∃ l, l = dcs x := ⟨_, rfl⟩
  have hx : dvv l = x := by rw [hl, dvv_dig]
  have hd : Dg l := by rw [hl]; exact dcs_lt x
  show Does Tryz.prog 161 [.one (.row (dlm (dcs x))), .one (.int .i64 (kd : Int))] _
  rw [← hl] at hln ⊢
  rw [← hx]
  have hll := dlm_len l
  refine fnD Tryz.func161 rfl ?_
  refine go tt [.i (dlm l).length, .i (dlm l).length] rfl (by simp [AllP]; omega) ?_
  rw [hll, show List.replicate l.length [LV.int .i64 0] = dlm (List.replicate l.length 0) from by simp [dlm]]
  refine lp (S := Nat × List Nat × Nat) 1 (fun L1 s => (8, .v (.one (.int .i64 ((s.1 : Int) - 1)))) :: (7, .v (.one (.int .i64 (s.2.2 : Int)))) :: L1) (fun s => [.row false 3 1 (dlm s.2.1)]) (fun s => s.1) (fun s => s.1 ≤ l.length ∧ s.2.1.length = l.length ∧ Dg s.2.1 ∧ dvv (s.2.1.drop s.1) = dvv (l.drop s.1) / kd ∧ s.2.2 = dvv (l.drop s.1) % kd) (l.length, List.replicate l.length 0, 0) ⟨Nat.le_refl _, by simp, Dg.zeros _, by simp [dvv], by simp [dvv]⟩ rfl (fun _ _ => rfl) rfl fun ⟨k, o, R⟩ ⟨j1, j2, j3, j4, hR⟩ => ?_
  dsimp only at j1 j2 j3 j4 hR ⊢
  cases k with
  | zero =>
    have cc := c_fcut j3
    rw [List.drop_zero, List.drop_zero] at j4
    rw [j4] at cc
    exact en tt [.f (by simp), .c [] cc] rfl (by rw [hR, List.drop_zero]) trivial
  | succ k =>
    obtain ⟨d, hdk⟩ : ∃ d, l[k]? = some d := ⟨_, List.getElem?_eq_getElem (by omega)⟩
    have hd0 := hd d (List.mem_of_getElem? hdk)
    have hdd := dvv_drop hdk
    obtain ⟨s1, s2, s3⟩ := div_step (V := dvv (l.drop (k + 1))) (kd := kd) (d := d) hk.1
    rw [← hdd] at s1 s2
    have hr := Nat.mod_lt (dvv (l.drop (k + 1))) hk.1
    rw [← hR] at s1 s2 s3 hr
    have e : ((k + 1 : Nat) : Int) - 1 = (k : Int) := by omega
    have htd : ((R : Int) * 10000 + (d : Int)).tdiv (kd : Int) = (((R * 10000 + d) / kd : Nat) : Int) := rfl
    have hle := Nat.div_le_self (R * 10000 + d) kd
    have htb : 0 ≤ ((R : Int) * 10000 + (d : Int)).tdiv (kd : Int) ∧ ((R : Int) * 10000 + (d : Int)).tdiv (kd : Int) ≤ 655369999 := by
      rw [htd]; revert hle; generalize (R * 10000 + d) / kd = Q; intro hle; omega
    rw [e]
    refine go tt [.t (by simp), .x (dlm_get hdk), .r 26 (eI (b := ((R * 10000 + d : Nat) : Int)) (by omega)), .r 31 (eI (b := (((R * 10000 + d) / kd : Nat) : Int)) (by rfl)), .i k, .r 35 (eI (b := (((R * 10000 + d) % kd : Nat) : Int)) (by rfl))] rfl (by simp [AllP]; omega) ?_
    exact rd (k, o.set k ((R * 10000 + d) / kd), (R * 10000 + d) % kd) (by dsimp only; omega) ⟨by dsimp only; omega, by simp [j2], j3.set (s3 hd0), by dsimp only; rw [ddrop_set (by omega)]; simp only [dvv]; rw [j4, s1], by dsimp only; exact s2.symm⟩ (by simp [dlm, List.map_set]; rfl)
theorem sz_div (x k : Nat) : sz (x / k) ≤ sz x := sz_mono (Nat.div_le_self _ _)
theorem limbs_snoc {x y : Nat} {o : List Nat} (h : limbs x = o ++ limbs y) (h0 : y ≠ 0) : limbs x = (o ++ [y % 4294967296]) ++ limbs (y / 4294967296) := by
  rw [h, limbs_pos h0]; simp
theorem lm_snoc (o : List Nat) (z : Nat) : lm (o ++ [z]) = lm o ++ [[.int .u32 (z : Int)]] := by simp [lm]
theorem c_ToN {x : Nat} (hx : sz x ≤ 100000000) : Does Tryz.prog 96 [.one (nd x)] [lr (limbs x)] := by
  have hlx := limbs_len hx
  refine fnD Tryz.func96 rfl ?_
  refine go tt [.o 3 169 1] rfl trivial ?_
  refine lp (S := Nat × List Nat) 1 (fun L1 s => (0, .v (.one (nd s.1))) :: (3, .v (.one (.orow 0 1 none))) :: L1) (fun s => [.row false 169 1 (lm s.2)]) (fun s => s.1) (fun s => limbs x = s.2 ++ limbs s.1 ∧ s.1 ≤ x) (x, []) ⟨rfl, Nat.le_refl _⟩ rfl (fun _ _ => rfl) rfl fun ⟨y, o⟩ ⟨j1, j2⟩ => ?_
  dsimp only at j1 j2 ⊢
  by_cases h0 : y = 0
  · subst h0
    rw [limbs_zero, List.append_nil] at j1
    rw [j1]
    exact en tt [.f (by simp [dcs_zero])] rfl rfl trivial
  · have hs := limbs_snoc j1 h0
    have hsy : sz y ≤ 100000000 := Nat.le_trans (sz_mono j2) hx
    have c1 := c_small (x := y) (kd := 65536) hsy (by decide)
    have c2 := c_small (x := y / 65536) (kd := 65536) (Nat.le_trans (sz_div _ _) hsy) (by decide)
    have hl : (dcs y).length ≠ 0 := fun h => h0 (dcs_nil.1 h)
    have ol : o.length ≤ (limbs x).length := by rw [j1]; simp
    have e : y / 65536 % 65536 * 65536 + y % 65536 = y % 4294967296 := by omega
    have e2 : y / 65536 / 65536 = y / 4294967296 := by omega
    refine go tt [.t (by simp; omega), .c [] c1, .c [] c2, .r 26 (e32 (b := ((y % 4294967296 : Nat) : Int)) (by omega)), .s (sz := 1) (l := [[.int .u32 ((y % 4294967296 : Nat) : Int)]]) (fun c hc => by rw [List.mem_singleton.1 hc]; rfl)] rfl (by simp [AllP, lm_len]; omega) ?_
    rw [← e2] at hs
    exact rd (y / 65536 / 65536, o ++ [y % 4294967296]) (by dsimp only; omega) ⟨hs, by dsimp only; omega⟩ (by rw [lm_snoc]; rfl)
/-- a whole number of the reference -/
abbrev ri (z : Int) : List LV := [nd z.natAbs, sg z]
theorem ri_mk (b : Bool) (m : Nat) : [nd m, LV.bool (b && decide (0 < m))] = ri (ofSign b m) := by
  simp only [ri, sg, ofSign_natAbs, ofSign_neg]
theorem nd_len (x : Nat) : (0 < (dcs x).length) ↔ 0 < x := by
  have := dcs_nil (x := x); omega
theorem c_fmade (b : Bool) (m : Nat) : Does Tryz.prog 97 [.one (nd m), .one (.bool b)] [.agg (ri (ofSign b m))] := by
  rw [← ri_mk]
  have e := nd_len m
  cases b with
  | false => exact w tt Tryz.func97 rfl [.g 7 false rfl] rfl rfl trivial
  | true => exact w tt Tryz.func97 rfl [.g 7 true rfl] rfl (by simp [e]) trivial
theorem c_fZero {z : Int} : Does Tryz.prog 139 [.agg (ri z)] [.one (.bool (decide (z = 0)))] :=
  w tt Tryz.func139 rfl [] rfl (by have h := dcs_nil (x := z.natAbs); simp only [dlm_len]; congr 3; rw [decide_eq_decide]; omega) trivial
theorem c_To {z : Int} (hz : isz z ≤ 100000000) : Does Tryz.prog 46 [.agg (ri z)] [.agg (ofI z)] :=
  w tt Tryz.func46 rfl [.c [] (c_ToN hz)] rfl rfl trivial
theorem eBo {a b : Bool} (h : a = b) : TV.one (LV.bool a) = .one (.bool b) := h ▸ rfl
theorem dlm_app (l : List Nat) (x : Nat) : dlm (l ++ [x]) = dlm l ++ [[.int .i64 (x : Int)]] := by simp [dlm]
theorem dcs_snoc {x y : Nat} {o : List Nat} (h : dcs x = o ++ dcs y) (h0 : y ≠ 0) : dcs x = (o ++ [y % 10000]) ++ dcs (y / 10000) := by
  rw [h, dcs_pos h0]; simp
theorem c_fOf' {b : Bool} {x : Nat} (hx : x ≤ 4000000000000000000) (hb : b = true → 0 < x) : Does Tryz.prog 49 [.one (.int .i64 (ofSign b x))] [.agg (ri (ofSign b x))] := by
  have hl : (dcs x).length ≤ 100 := by
    have := dcs_len x
    have h2 : sz x ≤ 64 := sz_le.2 (by omega)
    omega
  have hm := c_fmade b x
  refine fnD Tryz.func49 rfl ?_
  cases b with
  | false =>
    show AK Tryz.prog _ _ _ (argsA 0 [.one (.int .i64 (x : Int))]) []
    refine go tt [.f (by simp <;> omega), .r 3 (eBo (b := false) (by simp)), .f rfl, .o 4 3 1] rfl trivial ?_
    refine lp (S := Nat × List Nat) 2 (fun L1 s => (0, .v (.one (.int .i64 (s.1 : Int)))) :: (4, .v (.one (.orow 1 1 none))) :: L1) (fun s => [.blk 47 [.nils, .bool false], .row false 3 1 (dlm s.2)]) (fun s => s.1) (fun s => dcs x = s.2 ++ dcs s.1 ∧ s.1 ≤ x) (x, []) ⟨rfl, Nat.le_refl _⟩ rfl (fun _ _ => rfl) rfl fun ⟨y, o⟩ ⟨j1, j2⟩ => ?_
    dsimp only at j1 j2 ⊢
    by_cases h0 : y = 0
    · subst h0
      rw [dcs_zero, List.append_nil] at j1
      rw [← j1]
      exact en tt [.f (by simp), .c [] hm] rfl rfl trivial
    · have hs := dcs_snoc j1 h0
      have ol : o.length ≤ (dcs x).length := by rw [j1]; simp
      refine go tt [.t (by simp; omega), .r 18 (eI (b := ((y % 10000 : Nat) : Int)) (by rfl)), .s (sz := 1) (l := [[.int .i64 ((y % 10000 : Nat) : Int)]]) (fun c hc => by rw [List.mem_singleton.1 hc]; rfl), .r 22 (eI (b := ((y / 10000 : Nat) : Int)) (by rfl))] rfl (by simp [AllP, dlm_len]; omega) ?_
      exact rd (y / 10000, o ++ [y % 10000]) (by dsimp only; omega) ⟨hs, by dsimp only; omega⟩ (by rw [dlm_app]; rfl)
  | true =>
    show AK Tryz.prog _ _ _ (argsA 0 [.one (.int .i64 (-(x : Int)))]) []
    refine go tt [.f (by simp <;> omega), .r 3 (eBo (b := true) (by simpa using hb rfl)), .t rfl, .r 0 (eI (b := (x : Int)) (by omega)), .o 4 3 1] rfl (by simp [AllP]; omega) ?_
    refine lp (S := Nat × List Nat) 2 (fun L1 s => (0, .v (.one (.int .i64 (s.1 : Int)))) :: (4, .v (.one (.orow 1 1 none))) :: L1) (fun s => [.blk 47 [.nils, .bool false], .row false 3 1 (dlm s.2)]) (fun s => s.1) (fun s => dcs x = s.2 ++ dcs s.1 ∧ s.1 ≤ x) (x, []) ⟨rfl, Nat.le_refl _⟩ rfl (fun _ _ => rfl) rfl fun ⟨y, o⟩ ⟨j1, j2⟩ => ?_
    dsimp only at j1 j2 ⊢
    by_cases h0 : y = 0
    · subst h0
      rw [dcs_zero, List.append_nil] at j1
      rw [← j1]
      exact en tt [.f (by simp), .c [] hm] rfl rfl trivial
    · have hs := dcs_snoc j1 h0
      have ol : o.length ≤ (dcs x).length := by rw [j1]; simp
      refine go tt [.t (by simp; omega), .r 18 (eI (b := ((y % 10000 : Nat) : Int)) (by rfl)), .s (sz := 1) (l := [[.int .i64 ((y % 10000 : Nat) : Int)]]) (fun c hc => by rw [List.mem_singleton.1 hc]; rfl), .r 22 (eI (b := ((y / 10000 : Nat) : Int)) (by rfl))] rfl (by simp [AllP, dlm_len]; omega) ?_
      exact rd (y / 10000, o ++ [y % 10000]) (by dsimp only; omega) ⟨hs, by dsimp only; omega⟩ (by rw [dlm_app]; rfl)
theorem c_fOf {n : Int} (hn : -4000000000000000000 ≤ n ∧ n ≤ 4000000000000000000) : Does Tryz.prog 49 [.one (.int .i64 n)] [.agg (ri n)] := by
  have e : ofSign (decide (n < 0)) n.natAbs = n := by unfold ofSign; by_cases h : n < 0 <;> simp [h] <;> omega
  have h := c_fOf' (b := decide (n < 0)) (x := n.natAbs) (by omega) (fun h => by have := of_decide_eq_true h; omega)
  rwa [e] at h
end Orr

namespace Orr
open Go Go.Proofs
set_option maxRecDepth 10000
abbrev fr (q : Rat) : List LV := ri q.num ++ ri (q.den : Int)
theorem dcs_one : dcs 1 = [1] := by rw [dcs_pos (by decide)]; rw [dcs_zero]
theorem c_fMake1 {n : Int} : Does Tryz.prog 83 [.agg (ri n), .agg (ri 1)] [.agg (fr (n : Rat))] := by
  have h0 : (dlm (dcs (1 : Int).natAbs))[0]? = some [LV.int .i64 1] := by rw [show (1 : Int).natAbs = 1 from rfl, dcs_one]; rfl
  have h1 : decide (((dlm (dcs (1 : Int).natAbs)).length : Int) = 1) = true := by rw [show (1 : Int).natAbs = 1 from rfl, dcs_one]; rfl
  exact w tt Tryz.func83 rfl [.c [] (c_fZero (z := 1)), .f rfl, .f rfl, .g 19 true h1, .x h0, .t rfl] rfl rfl trivial
theorem c_OfR1 {n : Int} (hn : -4000000000000000000 ≤ n ∧ n ≤ 4000000000000000000) : Does Tryz.prog 22 [.one (.int .i64 n), .one (.int .i64 1)] [.agg (fr (n : Rat))] :=
  w tt Tryz.func22 rfl [.c [] (c_fOf hn), .c [] (c_fOf (n := 1) (by decide)), .c [] c_fMake1] rfl rfl trivial
theorem c_ToR {q : Rat} (hq : Qs 100000000 q) : Does Tryz.prog 21 [.agg (fr q)] [.agg (rl q)] :=
  w tt Tryz.func21 rfl [.c [] (c_To hq.1), .c [] (c_To hq.2)] rfl rfl trivial
end Orr

namespace Orr
open Go Go.Proofs Orq
set_option maxRecDepth 10000
end Orr

namespace Orr
open Go Go.Proofs Orq
set_option maxRecDepth 10000
abbrev idl (l : List Int) : List (List LV) := l.map fun (z : Int) => [.int .i64 z]
theorem idl_get {l : List Int} {i : Nat} {z : Int} (h : l[i]? = some z) : (idl l)[i]? = some [.int .i64 z] := map_get h
/-- any number as one from 0 to n - 1 -/
def wthn (v n : Int) : Int := if n < 1 then 0 else v.emod n
theorem tmod_emod {v n : Int} (h : 0 < n) : (if v.tmod n < 0 then v.tmod n + n else v.tmod n) = v % n := by
  have h3 := Int.emod_nonneg v (show n ≠ 0 by omega)
  have h4 := Int.emod_lt_of_pos v h
  have h1 := Int.tmod_eq_emod (a := v) (b := n)
  have hn : ((n.natAbs : Nat) : Int) = n := by omega
  split at h1
  · rw [h1]; simp; omega
  · rename_i hc
    rw [h1, hn]
    have : v % n ≠ 0 := fun e => hc (.inr (Int.dvd_of_emod_eq_zero e))
    rw [if_pos (by omega)]; omega
theorem c_Within {v n : Int} (hv : -9223372036854775808 ≤ v ∧ v ≤ 9223372036854775807) (hn : n ≤ 1000000000) : Does Tryz.prog 15 [.one (.int .i64 v), .one (.int .i64 n)] [.one (.int .i64 (wthn v n))] := by
  unfold wthn
  by_cases h : n < 1
  · rw [if_pos h]
    exact w tt Tryz.func15 rfl [.t (by simpa using h)] rfl rfl trivial
  · rw [if_neg h]
    have e := tmod_emod (v := v) (n := n) (by omega)
    have h3 := Int.emod_nonneg v (show n ≠ 0 by omega)
    have h4 := Int.emod_lt_of_pos v (show 0 < n by omega)
    show Does Tryz.prog 15 [.one (.int .i64 v), .one (.int .i64 n)] [.one (.int .i64 (v % n))]
    by_cases h0 : v.tmod n < 0
    · rw [if_pos h0] at e
      have b : -n ≤ v.tmod n := by omega
      exact w tt Tryz.func15 rfl [.f (by simpa using h), .t (by simpa using h0)] rfl (by rw [e]) (by simp [AllP]; omega)
    · rw [if_neg h0] at e
      exact w tt Tryz.func15 rfl [.f (by simpa using h), .f (by simpa using h0)] rfl (by rw [e]) (by simp [AllP]; omega)
end Orr

namespace Orr
open Go Go.Proofs Orq
theorem sc_still {x y : Int} (hx : -9223372036854775808 ≤ x ∧ x ≤ 9223372036854775807) (hy : -9223372036854775808 ≤ y ∧ y ≤ 9223372036854775807) : Sc (still x y) := ⟨Crv.nml _, ((cs_still hx hy).norm (by decide)).mono (by decide) (by decide)⟩
theorem Sc.pt {p : Pt} (h : Sc p.c) : PtOk 4294967294 1073741824 p := ⟨h.n, h.c.mono (by decide) (by decide)⟩
end Orr

namespace Orr
open Go Go.Proofs Orq
set_option maxRecDepth 10000
theorem d_wakes19 : Does Tryz.prog 29 [] [.one (.bool true)] := by
  have hq : Qs 900 (ratOf 0 0) := ⟨by decide, by decide⟩
  have ez : ratOf 0 0 = 0 := by decide
  have hsc : ∀ p ∈ [(⟨still 3 4, 7⟩ : Pt)], Sc p.c := fun p hp => by
    rw [List.mem_singleton.1 hp]; exact sc_still (by decide) (by decide)
  have zp : IsPts 4294967294 1073741824 (ptrow [⟨still 3 4, 7⟩]) [⟨still 3 4, 7⟩] := isPts_n fun p hp => (hsc p hp).pt
  have hnl : newL [] [(⟨still 3 4, 7⟩ : Pt)] = ([⟨still 3 4, 7⟩], 0) := rfl
  have cn := c_ToNew (qs := [⟨still 3 4, 7⟩]) zp (by decide) hnl hsc (by decide) isInt_zero isInt_zero (by decide) (by decide) hq
  rw [ez] at cn
  have hv : Va (tq 0) := va_q (by rw [← ez]; exact hq)
  have hpl : play (sgA (tq 0)) [(⟨still 3 4, 7⟩ : Pt)] = ([⟨still 3 4, 7⟩], []) := play_few _ (by decide)
  have hbr : brT [(⟨still 3 4, 7⟩ : Pt)] (tq 0) = ([ofPt ⟨still 3 4, 7⟩], []) := by unfold brT; rw [hpl]; rfl
  have hbc : begT [(⟨still 3 4, 7⟩ : Pt)] (tq 0) = ⟨tq 0, [], 0⟩ := by unfold begT bcT; rw [hpl]; rfl
  rw [hbr, hbc] at cn
  have hok : CrOk ⟨tq 0, [], 0⟩ := ⟨hv, fun w hw => (by cases hw), by decide⟩
  have cw := c_ToWin (c := ⟨tq 0, [], 0⟩) (r0 := ptrow [⟨still 3 4, 7⟩]) (r2 := []) (w := ⟨still 3 4, 7⟩)
  have cc := c_TCerts (T := 86) (r0 := ptrow [⟨still 3 4, 7⟩]) (r1 := ([ofPt ⟨still 3 4, 7⟩], [])) hok
  refine fnD Tryz.func29 rfl ?_
  exact en tt [.c [] (c_Still (by decide) (by decide)), .c [0] cn, .g 15 false rfl, .f rfl, .c [0] cw, .g 25 true rfl, .g 29 true rfl, .c [0] cc] rfl rfl trivial
def wt30 (zs : List Int) : List Int := zs.map fun z => wthn z 30
theorem wt30_get {zs : List Int} {i : Nat} (h : i < zs.length) : (wt30 zs).getD i 0 = wthn zs[i] 30 := by
  unfold wt30; rw [List.getD_eq_getElem?_getD, List.getElem?_map, List.getElem?_eq_getElem h]; rfl
theorem wt30_bd (zs : List Int) : ∀ z ∈ wt30 zs, 0 ≤ z ∧ z < 30 := fun z hz => by
  obtain ⟨x, _, rfl⟩ := List.mem_map.1 hz
  show 0 ≤ x % 30 ∧ x % 30 < 30
  omega
theorem rpt_crv (s : List Int) (i : Nat) : Crv.norm (Crv.mk (trim [(i : Int)]) (trim [s.getD i 0, (i : Int)]) 0) = (rpt s i).c := Crv.norm_of (k := (rpt s i).c) (nml_one (trim_trim _) (trim_trim _))
theorem rpts_snoc (s : List Int) (i : Nat) : ptrow (rpts s (i + 1)) = ptrow (rpts s i) ++ [ofPt (rpt s i)] := by
  unfold rpts ptrow; rw [List.range_succ, List.map_append, List.map_append]; rfl
/-- the best of the first ones -/
def BestTo (s : List Int) (T : Int) (k : Nat) (b : Int) : Prop := k = 0 ∧ b = -1 ∨ ∃ i : Nat, b = (i : Int) ∧ i < k ∧ ∀ j, j < k → j ≠ i → s.getD j 0 + j * T < s.getD i 0 + i * T ∨ s.getD j 0 + j * T = s.getD i 0 + i * T ∧ j < i
theorem d_law19_Rises {zs : List Int} {t : Int} (hz : ∀ z ∈ zs, -9223372036854775808 ≤ z ∧ z ≤ 9223372036854775807) (ht : -9223372036854775808 ≤ t ∧ t ≤ 9223372036854775807) : Does Tryz.prog 4 [.one (.row (idl zs)), .one (.int .i64 t)] [.one (.bool true)] := by
  obtain ⟨T, hT⟩ : ∃ T, T = wthn t 40 := ⟨_, rfl⟩
  have hT0 : 0 ≤ T ∧ T < 40 := by rw [hT]; show 0 ≤ t % 40 ∧ t % 40 < 40; omega
  obtain ⟨N, hN⟩ : ∃ N, N = min zs.length 5 := ⟨_, rfl⟩
  have hN5 : N ≤ 5 := by omega
  have hNl : N ≤ zs.length := by omega
  obtain ⟨s, hs⟩ : ∃ s, s = wt30 zs := ⟨_, rfl⟩
  have hsb : ∀ z ∈ s, 0 ≤ z ∧ z < 30 := by rw [hs]; exact wt30_bd zs
  have hsg := getD_bd (b := 30) (by decide) hsb
  have hil : (idl zs).length = zs.length := by simp
  have cw := c_Within (v := t) (n := 40) ht (by decide)
  rw [← hT] at cw
  have cel : ∀ i, i < N → ∃ z, zs[i]? = some z ∧ Does Tryz.prog 15 [.one (.int .i64 z), .one (.int .i64 30)] [.one (.int .i64 (s.getD i 0))] := fun i h => by
    have h' : i < zs.length := by omega
    have := c_Within (v := zs[i]) (n := 30) (hz _ (List.getElem_mem h')) (by decide)
    rw [← wt30_get h', ← hs] at this
    exact ⟨zs[i], List.getElem?_eq_getElem h', this⟩
  have hsc := rpts_sc hsb hN5
  have hd := rpts_pw s N
  have hln : (rpts s N).reverse.length ≤ 1000 := by rw [List.length_reverse, rpts_len]; omega
  refine fnD Tryz.func4 rfl (ln 0 rfl rfl fun hzl => ?_)
  rw [hil] at hzl
  refine go tt [.r 16 (eI (b := (N : Int)) (by rw [hil, hN]; omega)), .c [] cw, .o 6 35 5] rfl trivial ?_
  refine lp (S := Nat) 1 (fun L1 i => (7, .v (.one (.int .i64 (i : Int)))) :: (6, .v (.one (.orow 0 5 none))) :: L1) (fun i => [.row false 35 5 (ptrow (rpts s i))]) (fun i => N - i) (fun i => i ≤ N) 0 (Nat.zero_le _) rfl (fun _ _ => rfl) rfl fun i hi => ?_
  have hpl : ∀ i, (ptrow (rpts s i)).length = i := fun i => by rw [rp_len, rpts_len]
  by_cases hlt : i < N
  · obtain ⟨z, hx, c30⟩ := cel i hlt
    have h0 := hsg i
    have p1 := c_POf (p := [(i : Int)]) (by simp) (fun z hz => by simp only [List.mem_cons, List.not_mem_nil, or_false] at hz; omega)
    have p2 := c_POf (p := [s.getD i 0, (i : Int)]) (by simp) (fun z hz => by simp only [List.mem_cons, List.not_mem_nil, or_false] at hz; omega)
    have hc := (rpt_sc (s := s) (i := i) hsb (by omega)).c
    have hcs : Cs 90 3 (Crv.mk (trim [(i : Int)]) (trim [s.getD i 0, (i : Int)]) 0) := ⟨hc.x, hc.y, by show isz 0 ≤ 90; decide, hc.lx, hc.ly⟩
    have co := c_cOf (isInts_n (trim [(i : Int)])) (isInts_n (trim [s.getD i 0, (i : Int)])) (hcs.mono (by decide) (by decide))
    rw [rpt_crv] at co
    have hm : ∀ y ∈ [ofPt (rpt s i)], y.length = 5 := fun y hy => by rw [List.mem_singleton.1 hy]; rfl
    refine go tt [.t (by simpa using hlt), .c [] p1, .x (idl_get hx), .c [] c30, .c [] p2, .c [] co, .s (sz := 5) hm] rfl (by simp [AllP, hpl, IntKind.bits]; omega) ?_
    exact rd (i + 1) (by omega) hlt (by rw [rpts_snoc]; rfl)
  have hiN : i = N := by omega
  rw [hiN]
  clear hlt hi hiN
  have hsc' : ∀ p ∈ rpts s N, Sc p.c := fun p hp => hsc p (List.mem_reverse.2 hp)
  have zp := isPts_n (s := 4294967294) (n := 1073741824) fun p hp => (hsc' p hp).pt
  have hq0 : Qs 900 (ratOf 0 0) := ⟨by decide, by decide⟩
  have cn := c_ToNew zp (by rw [rpts_len]; omega) (rpts_new s (by omega)) hsc hln isInt_zero isInt_zero (by decide) (by decide) hq0
  have r0 : ratOf 0 0 = 0 := by decide
  rw [r0] at cn hq0
  have hv : Va (tq 0) := va_q hq0
  have htq : Qs 900 (T : Rat) := ⟨Nat.le_trans (isz_le.2 (show T.natAbs < 2 ^ 60 by omega)) (by decide), by show isz 1 ≤ 900; decide⟩
  have S := stabT hsc hln hd
  have hst : KSt (bcT (rpts s N).reverse) (brT (rpts s N).reverse) (begT (rpts s N).reverse (tq 0)) (brT (rpts s N).reverse (tq 0)) := beg_st S hv
  have hcmp : cmpR (begT (rpts s N).reverse (tq 0)).now (T : Rat) ≤ 0 := by
    show cmpR (tq 0) (T : Rat) ≤ 0
    rw [tq_pt]
    refine cmpQ_le.2 ?_
    have : ((0 : Int) : Rat) ≤ (T : Rat) := Rat.intCast_le_intCast.2 hT0.1
    exact this
  have hal : (allP (rpts s N).reverse).length ≤ 1000000 := by
    rw [allP_len, List.length_reverse, rpts_len]
    have : N * (N * 2) ≤ 5 * (5 * 2) := Nat.mul_le_mul hN5 (Nat.mul_le_mul hN5 (Nat.le_refl 2))
    omega
  obtain ⟨K, c', E, hK, hg, hnow, hS', hev, hEl, hE⟩ := adv_ok S (allP_cp hsc) (fun a _ => bcT_all) hal htq hst hcmp
  have cadv := c_ToAdv (l := (rpts s N).reverse) (K := K) htq hsc hln hst.inv.ok ⟨Int.le_refl 0, by show (0 : Int) + K ≤ 1000000000000000000; omega⟩ hcmp hg
  obtain ⟨r1, r2, hbr⟩ : ∃ r1 r2, brT (rpts s N).reverse (tq (T : Rat)) = (r1, r2) := ⟨_, _, rfl⟩
  have hb1 : r1 = (play (sgA (tq (T : Rat))) (rpts s N).reverse).1.map ofPt := (congrArg Prod.fst hbr).symm
  rw [hbr] at cadv
  refine go tt [.f (by simp), .c [1] cn, .g 50 false rfl, .f rfl, .c [] (c_OfR1 (n := T) (by omega)), .c [] (c_ToR (htq.mono (by decide))), .c [1] cadv, .f rfl] rfl trivial ?_
  refine lp (S := Nat × Int) 2 (fun L1 x => (11, .v (.one (.int .i64 (x.1 : Int)))) :: (10, .v (.one (.int .i64 x.2))) :: L1) (fun _ => [.gone, .blk 86 (crl3 c' (ptrow (rpts s N).reverse) (r1, r2))]) (fun x => N - x.1) (fun x => x.1 ≤ N ∧ BestTo s T x.1 x.2) (0, -1) ⟨Nat.zero_le _, .inl ⟨rfl, rfl⟩⟩ rfl (fun _ _ => rfl) rfl fun ⟨k, b⟩ ⟨hk, hb⟩ => ?_
  dsimp only at hk hb ⊢
  by_cases hlt : k < N
  · obtain ⟨z, hx, ck⟩ := cel k hlt
    have h0 := hsg k
    have hm : (k : Int) * T ≤ 4 * 40 := Int.le_trans (Int.mul_le_mul_of_nonneg_right (by omega) hT0.1) (Int.mul_le_mul_of_nonneg_left (by omega) (by decide))
    have hm0 : 0 ≤ (k : Int) * T := Int.mul_nonneg (by omega) hT0.1
    rcases hb with ⟨rfl, rfl⟩ | ⟨i, rfl, hik, hbest⟩
    · refine go tt [.t (by simpa using hlt), .g 71 true rfl, .t rfl] rfl (by simp [AllP]) ?_
      exact rd (0 + 1, ((0 : Nat) : Int)) (by dsimp only; omega) ⟨hlt, .inr ⟨0, rfl, by omega, fun j hj hne => by dsimp only at hj; omega⟩⟩ rfl
    · obtain ⟨z2, hx2, ci⟩ := cel i (by omega)
      have h2 := hsg i
      have hi2 : (i : Int) * T ≤ 4 * 40 := Int.le_trans (Int.mul_le_mul_of_nonneg_right (by omega) hT0.1) (Int.mul_le_mul_of_nonneg_left (by omega) (by decide))
      have hi20 : 0 ≤ (i : Int) * T := Int.mul_nonneg (by omega) hT0.1
      by_cases hge : s.getD i 0 + (i : Int) * T ≤ s.getD k 0 + (k : Int) * T
      · refine go tt [.t (by simpa using hlt), .g 71 false (decide_eq_false (by omega)), .x (idl_get hx), .c [] ck, .x (idl_get hx2), .c [] ci, .t (decide_eq_true hge)] rfl (by simp [AllP, -List.getD_eq_getElem?_getD]; omega) ?_
        exact rd (k + 1, (k : Int)) (by dsimp only; omega) ⟨hlt, .inr ⟨k, rfl, by omega, fun j hj hne => by
          dsimp only at hj
          have hjk : j < k := by omega
          by_cases e : j = i
          · rw [e]; omega
          · have := hbest j hjk e
            omega⟩⟩ rfl
      · refine go tt [.t (by simpa using hlt), .g 71 false (decide_eq_false (by omega)), .x (idl_get hx), .c [] ck, .x (idl_get hx2), .c [] ci, .f (decide_eq_false hge)] rfl (by simp [AllP, -List.getD_eq_getElem?_getD]; omega) ?_
        exact rd (k + 1, (i : Int)) (by dsimp only; omega) ⟨hlt, .inr ⟨i, rfl, by omega, fun j hj hne => by
          dsimp only at hj
          by_cases e : j = k
          · rw [e]; omega
          · exact hbest j (by omega) hne⟩⟩ rfl
  have hkN : k = N := by omega
  rw [hkN] at hb
  clear hlt hk
  rcases hb with ⟨h0, hb⟩ | ⟨i, hb, hiN, hbest⟩
  · have e0 : r1 = [] := by rw [hb1, h0]; rfl
    subst e0
    exact en tt [.f (by simp [hkN]), .c [1] c_ToWin0, .g 102 true (by simp [h0]), .g 105 true rfl, .g 112 true rfl, .c [] d_wakes19] rfl rfl trivial
  · obtain ⟨i', hi', hpl', hwin⟩ := rise_win hsb hN5 (by omega) htq
    have hii : i' = i := by
      by_cases e : i' = i
      · exact e
      · have h1 := hbest i' hi' e
        have h2 := hwin i hiN (fun h => e h.symm)
        omega
    rw [hii] at hpl'
    have e1 : r1 = [ofPt (rpt s i)] := by rw [hb1, hpl']; rfl
    subst e1
    have hid : (rpt s i).id = 10 - (i : Int) := rfl
    rw [hb]
    exact en tt [.f (by simp [hkN]), .c [1] c_ToWin, .g 102 true (by simp; omega), .g 105 false rfl, .g 112 true (by simp [hid]), .c [] d_wakes19] rfl rfl (by simp [AllP]; omega)
end Orr

namespace Orr
open Go Go.Proofs
variable {H : Type} {enc : TypeId × Value → H} {w : World} {base : Nat} {spare : Nat → Bool} {held : Bool}
end Orr

namespace Orr
open Go Go.Proofs Go.ChangeShapes Go.WideShapes Go.ChangeAt Go.RowKit Go.WideElems

theorem cell_at {w : World} {a : Addr} {v : Value} (h : w.cell? a = some v) : a.spot = none ∧ a.block < w.heap.size := by
  simp only [World.cell?] at h
  split at h
  · rename_i c t fr hc
    split at h
    · cases h
    · rename_i hs
      refine ⟨by cases e : a.spot with | none => rfl | some _ => simp [e] at hs, ?_⟩
      exact (Array.getElem?_eq_some_iff.1 hc).1
  · cases h
theorem add_add {a : Addr} (h : a.spot = none) (n m : Nat) : (a.add n).add m = ⟨a.block, a.off + n + m, none⟩ := by
  obtain ⟨b, o, s⟩ := a
  simp only at h
  subst h
  simp only [Addr.add]
  split
  · rename_i h; subst h
    split
    · rename_i h; subst h; simp
    · simp
  · split
    · rename_i h; subst h; simp
    · simp

/-- the frame of a law: all of the old memory stays -/
def fr0 (w : World) : Fr := ⟨fun b => b < w.heap.size, fun _ => False, w, fun _ => False, fun _ => none⟩
theorem hs0 (w : World) : HS (fr0 w) (ob []) (nw []) (fun _ => none) (fun _ => False) w where
  size := Nat.le_refl _
  kept := fun b hb => ⟨hb, rfl, Iff.rfl⟩
  ids := fun i h => h.elim
  nj := fun i h => by rw [ob_nil] at h; cases h
  io := ⟨rfl, rfl⟩
  blk := fun i => by rw [ob_nil]; trivial
  nk := fun i g c m h _ => by rw [ob_nil] at h; cases h
  inj := fun i j g c m c' m' h _ _ _ => by rw [ob_nil] at h; cases h
  mlt := fun b h => h.elim
  m0 := fun b _ h => h.elim
  un := fun i _ => ⟨rfl, rfl⟩
  uj := fun i _ h => h.elim
theorem same_of {w w' : World} {bl : Nat → OB} {U : Nat → Prop} {E : Env} {M : Nat → Prop} (h : HS (fr0 w) bl U E M w') {p : MemPlace} (hp : p.block < w.heap.size) : w.sameAt w' p := by
  cases p with
  | cell b off => simp only [World.sameAt, World.cell?]; rw [(h.kept b hp).2.1]; rfl
  | map b => exact (h.kept b hp).2.1
theorem kept_of {w w' : World} {bl : Nat → OB} {U : Nat → Prop} {E : Env} {M : Nat → Prop} (h : HS (fr0 w) bl U E M w') (may : MemPlace → Prop) : w.keptBut w' may := by
  refine ⟨h.io.1, h.io.2, fun i hi => ?_⟩
  have e : w'.heap[i]? = w.heap[i]? := (h.kept i hi).2.1
  rw [e]
  cases w.heap[i]? with
  | none => rfl
  | some o => cases o <;> simp

end Orr

namespace Orr
open Go Go.Proofs Go.ChangeShapes Go.WideShapes Go.ChangeAt Go.RowKit Go.WideElems
set_option maxRecDepth 20000 in
/-- a row of numbers -/
theorem ints_read {H : Type} {enc : TypeId × Value → H} {w : World} {v : Value} {d : DataW H} {ps : List MemPlace} {ts : List TypeId} {ds : List (DataW H)} {base : Nat}
    (hval : Value.okWide Tryz.prog w .any base 22 v) (h : DataW.Trod enc Tryz.prog w 0 (fun _ => true) true 22 v d ps)
    (hz : (DataW.weightsEach Tryz.prog ts ds).all (· ≤ reachBytes) = true) (ht : ts[0]? = some 22) (hd : ds[0]? = some d) :
    ∃ zs : List Int, (∀ z ∈ zs, -9223372036854775808 ≤ z ∧ z ≤ 9223372036854775807) ∧ LRep w (fun _ => False) v (.row (idl zs)) := by
  obtain ⟨a, len, cap, rfl⟩ := okWide_slice Tryz.underlying22 hval
  obtain ⟨fu, h⟩ := h
  rcases Go.Deep.open_slice Tryz.underlying22 h with ⟨e, _⟩ | ⟨a', len', cap', m, n, D, Pl, e, _, hlc, hcap, hm, hx, hr⟩
  · simp only [Value.cells] at e
    have e : Value.slice a len cap = .slice none 0 0 := by simpa using e
    injection e with e1 e2 e3
    subst e1 e2 e3
    refine ⟨[], fun z hz => by simp at hz, ?_⟩
    exact LRep.row none 0 0 0 0 [] (fun _ _ => .bool true) (Nat.le_refl _) (by decide) (by simp) (by simp) (by simp) (by simp)
  · simp only [Value.cells] at e
    have e : Value.slice a len cap = .slice (some a') len' cap' := by simpa using e
    injection e with e1 e2 e3
    subst e1 e2 e3
    simp only [if_true] at hm
    subst hm
    have hd' : d = _ := congrArg Prod.fst hx
    subst hd'
    have hw := sized_slice hz ht hd Tryz.underlying22
    have hc5 : Tryz.prog.cellsOf 3 = 1 := by kernel_rfl
    have hb : 1 ≤ Tryz.prog.bytesOf 3 := of_decide_eq_true (by kernel_rfl)
    have hlen : len < 2 ^ 47 := by
      have h1 : len ≤ (len + (m - len)) * Tryz.prog.bytesOf 3 := by
        have := Nat.mul_le_mul (Nat.le_add_right len (m - len)) hb
        omega
      have h2 : (len + (m - len)) * Tryz.prog.bytesOf 3 ≤ reachBytes := by simpa using hw
      exact Nat.lt_of_le_of_lt (Nat.le_trans h1 h2) reachBytes_lt
    have hread : ∀ i, i < len → ∃ id : Int, w.cells? 0 (a'.add (i * 1)) 1 = some [.int .i64 id] ∧ (Lit.int .i64 id).wf = true := by
      intro i hi
      obtain ⟨cs, hcs, htr⟩ := hr i (by omega)
      rw [hc5] at hcs
      obtain ⟨id, e1, _, hw⟩ := DataW.trod_int Tryz.underlying3 htr
      subst e1
      exact ⟨id, hcs, hw⟩
    have hone : ∀ i, ∃ (id : Int), i < len → a'.spot = none ∧ a'.block < w.heap.size ∧
        w.cell? ⟨a'.block, a'.off + i * 1 + 0, none⟩ = some (.int .i64 id) ∧ (Lit.int .i64 id).wf = true := by
      intro i
      by_cases hi : i < len
      · obtain ⟨id, hcs, hwf⟩ := hread i hi
        obtain ⟨_, hl, hcell⟩ := World.cells?_some hcs
        have c0 := hcell 0 (by decide)
        have hsp : a'.spot = none := by
          obtain ⟨id0, hcs0, _⟩ := hread 0 (by omega)
          obtain ⟨_, _, hcell0⟩ := World.cells?_some hcs0
          have c0 := hcell0 0 (by decide)
          have : (a'.add (0 * 1)).add 0 = a' := by simp [Addr.add]
          rw [this] at c0
          exact (cell_at c0).1
        rw [add_add hsp] at c0
        exact ⟨id, fun _ => ⟨hsp, (cell_at c0).2, by simpa using c0, hwf⟩⟩
      · exact ⟨0, fun h => absurd h hi⟩
    let I : Nat → Int := fun i => Classical.choose (hone i)
    have hI : ∀ i, i < len → a'.spot = none ∧ a'.block < w.heap.size ∧
        w.cell? ⟨a'.block, a'.off + i * 1 + 0, none⟩ = some (.int .i64 (I i)) ∧ (Lit.int .i64 (I i)).wf = true := fun i => Classical.choose_spec (hone i)
    let zs : List Int := (List.range len).map I
    have hzl : (idl zs).length = len := by simp [zs]
    have hzg : ∀ i cs, (idl zs)[i]? = some cs → i < len ∧ cs = [.int .i64 (I i)] := by
      intro i cs h
      simp only [zs, idl, List.getElem?_map] at h
      by_cases hi : i < len
      · rw [List.getElem?_range hi] at h
        simp at h
        exact ⟨hi, h.symm⟩
      · rw [List.getElem?_eq_none (by simp; omega)] at h
        cases h
    refine ⟨zs, ?_, ?_⟩
    · intro z hz
      obtain ⟨i, hi, rfl⟩ := List.mem_map.1 hz
      have hwf := (hI i (List.mem_range.1 hi)).2.2.2
      simpa [Lit.wf, IntKind.min, IntKind.max, IntKind.signed, IntKind.bits] using hwf
    · have key : LRep w (fun _ => False) (.slice (some a') (idl zs).length m) (.row (idl zs)) := by
        refine LRep.row (some a') m 1 a'.block a'.off (idl zs) (fun i _ => .int .i64 (I i)) (by omega) ?_ ?_ ?_ ?_ ?_
        · have : maxLen = 2 ^ 63 - 1 := by rfl
          omega
        · intro cs hcs
          obtain ⟨i, hi⟩ := List.mem_iff_getElem?.1 hcs
          obtain ⟨_, rfl⟩ := hzg i cs hi
          rfl
        · intro h0
          obtain ⟨hs, hb, _⟩ := hI 0 (by omega)
          refine ⟨?_, hb, by simp⟩
          obtain ⟨b, o, s⟩ := a'
          simp only at hs
          rw [hs]
        · intro i cs hi j hj
          obtain ⟨hl, rfl⟩ := hzg i cs hi
          obtain rfl : j = 0 := by simpa using hj
          exact (hI i hl).2.2.1
        · intro i cs hi j x hx
          obtain ⟨hl, rfl⟩ := hzg i cs hi
          match j, hx with
          | 0, hx => simp at hx; subst hx; exact .int _ _
          | j + 1, hx => simp at hx
      rwa [hzl] at key
set_option maxRecDepth 20000 in
/-- a law of a row of numbers, and a number -/
theorem law_ints {f : FuncId} {fn : Func} {s : ChangeSpec} (hp : fn.params = #[22, 3]) (hr : fn.resultTypes = #[4]) (hv : s.vars = [])
    (hs : ∀ (H : Type) (d1 d2 : DataW H), s.fn H [d1, d2] = { results := [.lit (.bool true)], args := [d1, d2] })
    (hlaid : laidOutB Tryz.prog = true) (hr22 : Tryz.prog.readableRec 22 = true) (hr3 : Tryz.prog.readableRec 3 = true) (hs22 : 22 < Tryz.prog.types.size) (hs3 : 3 < Tryz.prog.types.size)
    (law : ∀ (zs : List Int) (n : Int), (∀ z ∈ zs, -9223372036854775808 ≤ z ∧ z ≤ 9223372036854775807) → (-2^63 ≤ n ∧ n ≤ 2^63-1) → Does Tryz.prog f [.one (.row (idl zs)), .one (.int .i64 n)] [.one (.bool true)])
    {H : Type} {enc : TypeId × Value → H} {W : World} {base : Nat} {args : Array Value} {ds gs : List (DataW H)} {before : List MemPlace} {fresh handsOn : Bool}
    (hval : ∀ (j : Nat) t v, fn.params[j]? = some t → args[j]? = some v → Value.okWide Tryz.prog W .any base t v)
    (hW : DataW.Whole enc Tryz.prog fn.params.toList s.vars false W args.toList ds gs before)
    (hz : (DataW.weightsEach Tryz.prog (fn.params.toList ++ s.plain.varTypes Tryz.prog) (ds ++ gs)).all (· ≤ reachBytes) = true) :
    Calls Tryz.prog f args W fun e W' => ∃ v, e = .returned v ∧ s.post enc Tryz.prog fn false fresh handsOn false W args v W' := by
  have hW' := hW
  obtain ⟨p, q, hA0, hV, rfl, hfz, hnd⟩ := hW
  have hA : DataW.TrodAll enc Tryz.prog W 0 (fun _ => true) true fn.params.toList args.toList ds p := hA0
  rw [hv] at hV
  obtain ⟨rfl, rfl⟩ := trodVars_none hV
  have hlt := hW'.lt
  rw [hp] at hA hval hz
  obtain ⟨v0, vs0, d0, ds0, p0, q0, hargs0, rfl, rfl, h0, r0⟩ := trodAll_cons hA
  obtain ⟨v1, vs1, d1, ds1, p1, q1, rfl, rfl, rfl, h1, r1⟩ := trodAll_cons r0
  obtain ⟨rfl, rfl, rfl⟩ := trodAll_nil r1
  obtain rfl : args = #[v0, v1] := by cases args; simp_all
  obtain ⟨n, rfl, rfl, rfl, w1⟩ := open_int Tryz.underlying3 (hval 1 3 v1 rfl rfl) h1
  obtain ⟨zs, hn, hrep⟩ := ints_read (hval 0 22 v0 rfl rfl) h0 hz rfl rfl
  have hn1 : -2^63 ≤ n ∧ n ≤ 2^63-1 := by simpa [Lit.wf, IntKind.min, IntKind.max, IntKind.signed, IntKind.bits] using w1
  have hcall := (law zs n hn hn1).2 (fr0 W) (fun _ => none) (fun _ => False) W [v0, .int .i64 n] (hs0 W) (.cons (show XRep W (fun _ => False) (fun _ => none) v0 (.row (idl zs)) from hrep.x) (.cons (show XRep W (fun _ => False) (fun _ => none) (.int .i64 n) (.int .i64 n) from (LRep.int .i64 n).x) .nil))
  refine hcall.mono fun e W' ⟨v, u, Bo, E', M', he, ⟨hu, hBo⟩, _, hm, har⟩ => ?_
  subst hu
  obtain rfl : v = .bool true := by
    have h : LRep _ _ v (.bool true) := har
    cases h
    rfl
  refine ⟨_, he, ?_⟩
  refine ⟨[d0, .lit (.int .i64 n)], [], _, [], p0 ++ ([] ++ []), [], hW', ?_, ?_, ?_, kept_of hm _, fun h => by cases h⟩
  · rw [hr, List.append_nil, hs]
    exact trodAll_cons_mk (shut_bool Tryz.underlying4 true) trodAll_mk0
  · rw [hp, List.append_nil, hs]
    have hb : ∀ p ∈ p0, p.block < W.heap.size := fun p hp => hlt p (by simp [hp])
    exact trodAll_cons_mk (Trod_stays hlaid hr22 hs22 h0 (fun p hp => same_of hm (hb p hp)) (fun p hp => by simpa using hb p hp)) (trodAll_cons_mk (shut_int Tryz.underlying3 w1) trodAll_mk0)
  · rw [hv, List.append_nil, hs]
    rfl
end Orr
