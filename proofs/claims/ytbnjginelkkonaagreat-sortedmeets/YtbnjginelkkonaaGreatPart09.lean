/- The document's example: a curve told from another time. Numbers over digits of four decimals: plain laws. The reference: natural numbers over digits of four decimals, told by what they mean. The reference: whole numbers as rational ones. The example of the document of sorted rows: walked. The law SortedNews: walked. The sorted row: where neighbours keep their signs, the row stays. Plain. Points that run towards each other: events are their meetings. Plain. However a way is cut, so many events. Plain. The law SortedMeets: walked. What an argument reads as, told in plain data, where it is not looked into. The last step of a law of points and a number: the arguments as they lie in memory are told in plain data; behind the call nothing of the old memory has changed. The last step of a law of a row of numbers and a number. -/
import Derived.Test.YtbnjginelkkonaaGreatPart08
import Derived.Test.YtbnjginelkkonaaGreatPart04
import Derived.Deep.Slices
import Derived.ProofKit
import Derived.OpenShut
import Derived.WideKeyArgs
import Derived.SizedLaws
set_option linter.all false

namespace Orr
open Go Go.Proofs
set_option maxRecDepth 10000
theorem c_Pow1 {n : Nat} (hn : n ≤ 256) : Does Tryz.prog 160 [.agg (ofI 1), .one (.int .i64 (n : Int))] [.agg (ofI 1)] := by
  have cm := c_WMul (isInt_n 1) (isInt_n 1) (by decide) (by decide)
  rw [show (1 : Int) * 1 = 1 from rfl] at cm
  refine fnD Tryz.func160 rfl ?_
  refine go tt [.c [] (c_Of (z := 1) (by decide)), .r 8 (v := .one (.int .i64 (n : Int))) (by simp; omega), .r 9 (v := .one (.int .i64 (n : Int))) (by simp)] rfl trivial ?_
  refine lp (S := Nat) 3 (fun L1 i => (10, .v (.one (.int .i64 (i : Int)))) :: L1) (fun _ => [.blk 29 (ofI 1), .blk 29 [.bool false, .nils], .blk 29 (ofI 1)]) (fun i => n - i) (fun i => i ≤ n) 0 (Nat.zero_le _) rfl (fun _ _ => rfl) rfl fun i hi => ?_
  by_cases h : i < n
  · refine go tt [.t (by simp; omega), .c [] cm] rfl (by simp [AllP]; omega) ?_
    exact rd (i + 1) (by omega) h rfl
  · obtain rfl : i = n := by omega
    exact en tt [.f (by simp)] rfl rfl trivial
theorem c_Move0 : Does Tryz.prog 157 [pr [], .agg (ofI 0), .agg (ofI 1)] [pr [], .one (.int .i64 0)] := by
  have n0 := c_WNorm (isInt_n 0) (by decide)
  have n1 := c_WNorm (isInt_n 1) (by decide)
  have cn := c_PNormT (p := []) rfl (by decide) bd_nil
  refine fnD Tryz.func157 rfl ?_
  refine go tt [.c [] n1, .c [] (c_Zero (z := 1)), .f rfl, .c [] cn, .z 8, .c [] n0, .c [] n1, .c [] (c_Of (z := 1) (by decide))] rfl (by simp [AllP]) ?_
  refine lp (S := Unit) 3 (fun L1 _ => (11, .v (.one (.int .i64 (-1)))) :: (8, .v (pr [])) :: L1) (fun _ => [.blk 29 (ofI 0), .blk 29 (ofI 1), .blk 29 (ofI 1)]) (fun _ => 0) (fun _ => True) () trivial rfl (fun _ _ => rfl) rfl fun _ _ => ?_
  exact en tt [.f (b := decide ((0 : Int) ≤ -1)) (by decide)] rfl rfl trivial
theorem c_Move1 : Does Tryz.prog 157 [pr [0, 1], .agg (ofI 0), .agg (ofI 1)] [pr [0, 1], .one (.int .i64 0)] := by
  have n0 := c_WNorm (isInt_n 0) (by decide)
  have n1 := c_WNorm (isInt_n 1) (by decide)
  have b01 : Bd 4 ([0, 1] : List Int) := fun z hz => by rcases List.mem_cons.1 hz with rfl | hz; decide; rw [List.mem_singleton.1 hz]; decide
  have b1 : Bd 4 ([1] : List Int) := fun z hz => by rw [List.mem_singleton.1 hz]; decide
  have b0 : Bd 4 ([0] : List Int) := fun z hz => by rw [List.mem_singleton.1 hz]; decide
  have cn := c_PNormT (p := [0, 1]) rfl (by decide) (bd_mono b01 (by decide))
  have m1 := c_PMul (p := []) (q := [0, 1]) (s := 4) (t := 4) rfl rfl (by decide) (by decide) bd_nil b01 (by decide)
  have m2 := c_PMul (p := [1]) (q := [0, 1]) (s := 4) (t := 4) rfl rfl (by decide) (by decide) b1 b01 (by decide)
  have a1 := c_PAdd (p := []) (q := [1]) (by decide) (by decide) bd_nil (bd_mono b1 (by decide))
  have a2 := c_PAdd (p := [0, 1]) (q := [0]) (by decide) (by decide) (bd_mono b01 (by decide)) (bd_mono b0 (by decide))
  rw [show pmul [] [0, 1] = [] from rfl] at m1
  rw [show pmul [1] [0, 1] = [0, 1] from rfl] at m2
  rw [show padd [] [1] = [1] from rfl] at a1
  rw [show padd [0, 1] [0] = [0, 1] from rfl] at a2
  have w1 := c_WMul (isInt_n 1) (isInt_n 1) (by decide) (by decide)
  have w0 := c_WMul (isInt_n 0) (isInt_n 1) (by decide) (by decide)
  rw [show (1 : Int) * 1 = 1 from rfl] at w1
  rw [show (0 : Int) * 1 = 0 from rfl] at w0
  refine fnD Tryz.func157 rfl ?_
  refine go tt [.c [] n1, .c [] (c_Zero (z := 1)), .f rfl, .c [] cn, .z 8, .c [] n0, .c [] n1, .c [] (c_Of (z := 1) (by decide)), .r 25 (eI (b := 1) rfl)] rfl (by simp [AllP]) ?_
  refine lp (S := Nat) 3 (fun L1 k => (11, .v (.one (.int .i64 (if k = 2 then 1 else if k = 1 then 0 else -1)))) :: (8, .v (pr (if k = 2 then [] else if k = 1 then [1] else [0, 1]))) :: L1) (fun _ => [.blk 29 (ofI 0), .blk 29 (ofI 1), .blk 29 (ofI 1)]) (fun k => k) (fun k => k ≤ 2) 2 (Nat.le_refl _) rfl (fun _ _ => rfl) rfl fun k hk => ?_
  rcases (show k = 0 ∨ k = 1 ∨ k = 2 by omega) with rfl | rfl | rfl
  · exact en tt [.f (b := decide ((0 : Int) ≤ -1)) (by decide)] rfl rfl trivial
  · refine go tt [.t rfl, .c [] m2, .x (i := 0) (xs := ofI 0) rfl, .c [] w0, .c [] a2, .c [] w1, .r 29 (eI (b := -1) rfl)] rfl (by simp [AllP]) ?_
    exact rd 0 (by omega) (by omega) rfl
  · refine go tt [.t rfl, .c [] m1, .x (i := 1) (xs := ofI 1) rfl, .c [] w1, .c [] a1, .c [] w1, .r 29 (eI (b := 0) rfl)] rfl (by simp [AllP]) ?_
    exact rd 1 (by omega) (by omega) rfl
abbrev run1 : Crv := ⟨[0, 1], [], 1⟩
theorem nml_run1 : Nml run1 := ⟨rfl, rfl, by decide, by decide⟩
theorem cs_run1 : Cs 3 3 run1 := by
  refine ⟨fun z hz => ?_, fun z hz => (by cases hz), by decide, by decide, by decide⟩
  rcases List.mem_cons.1 hz with rfl | hz
  · decide
  · rw [List.mem_singleton.1 hz]; decide
theorem Cs.up {s n s' n' : Nat} {k : Crv} (h : Cs s n k) (hs : s ≤ s') (hn : n ≤ n') : Cs s' n' k := ⟨bd_mono h.x hs, bd_mono h.y hs, Nat.le_trans h.d hs, Nat.le_trans h.lx hn, Nat.le_trans h.ly hn⟩
theorem c_rNegR {x y x' y' : LV} {n d : Int} (h1 : IsInt x y n) (h2 : IsInt x' y' d) (hn : isz n ≤ 4294967295) (hd : isz d ≤ 4294967295) (hq : Qs 4294967295 (ratOf n d)) : Does Tryz.prog 156 [.agg [x, y, x', y']] [.agg (rl (-(ratOf n d)))] := by
  have c1 := c_rnorm h1 h2 hn hd
  obtain ⟨b, l, rfl, rfl, _⟩ := h1
  obtain ⟨b', l', rfl, rfl, _⟩ := h2
  exact w tt Tryz.func156 rfl [.c [] c1, .c [] (c_Neg (isInt_n _) hq.1)] rfl rfl trivial
/-- a point that runs to the right by one -/
theorem c_Run1 : Does Tryz.prog 95 [.one (.row [[.bool false, .row []], [.bool false, .row [[.int .u32 1]]]]), .one (.row []), .agg [.bool false, .row [], .bool false, .row []]] [.agg (cl run1)] := by
  have i01 : IsInts [[.bool false, .row []], [.bool false, .row [[.int .u32 1]]]] [0, 1] := by
    refine ⟨⟨_, _, rfl, false, [], rfl, rfl, (fun x hx => by cases hx), rfl⟩, ⟨_, _, rfl, false, [1], rfl, rfl, (fun x hx => by rw [List.mem_singleton.1 hx]; decide), rfl⟩, trivial⟩
  have cn := c_PNorm i01 (by decide) (bd_mono cs_run1.x (by decide))
  have cn0 := c_PNormT (p := []) rfl (by decide) bd_nil
  rw [show trim [0, 1] = [0, 1] from rfl] at cn
  have cg := c_rNegR isInt_zero isInt_zero (by decide) (by decide) (show Qs 4294967295 (ratOf 0 0) from ⟨by decide, by decide⟩)
  rw [show -(ratOf 0 0) = 0 from by decide] at cg
  have p0 := c_Pow1 (n := 0) (by decide)
  have p1 := c_Pow1 (n := 1) (by decide)
  have s1 := c_PScale (p := [0, 1]) (c := 1) (by decide) (bd_mono cs_run1.x (by decide)) (by decide)
  have s0 := c_PScale (p := []) (c := 1) (by decide) bd_nil (by decide)
  rw [show pscale [0, 1] 1 = [0, 1] from rfl] at s1
  rw [show pscale [] 1 = [] from rfl] at s0
  have ck := c_cnormN nml_run1 (cs_run1.up (by decide) (by decide))
  refine fnD Tryz.func95 rfl ?_
  refine go tt [.c [] cn, .c [] cn0, .c [] cg, .c [] c_Move1, .c [] c_Move0, .c [] (c_Deg _), .r 40 (eI (b := 1) (by decide)), .c [] (c_Deg _), .r 43 (eI (b := 0) (by decide)), .r 46 (eI (b := ((1 : Nat) : Int)) (by decide))] rfl (by simp [AllP]) ?_
  exact en tt [.r 52 (eI (b := ((0 : Nat) : Int)) (by decide)), .c [] p0, .c [] s1, .r 60 (eI (b := ((1 : Nat) : Int)) (by decide)), .c [] p1, .c [] s0, .c [] p1, .c [] ck] rfl rfl (by simp [AllP])
end Orr

namespace Orr
open Go
def dvv : List Nat → Nat
  | [] => 0
  | x :: l => x + 10000 * dvv l
def Dg (l : List Nat) : Prop := ∀ x ∈ l, x < 10000
def dcs (x : Nat) : List Nat := if h : x = 0 then [] else (x % 10000) :: dcs (x / 10000)
termination_by x
decreasing_by omega
theorem dcs_zero : dcs 0 = [] := by unfold dcs; simp
theorem dcs_pos {x : Nat} (h : x ≠ 0) : dcs x = (x % 10000) :: dcs (x / 10000) := by rw [dcs]; simp [h]
theorem dvv_dig (x : Nat) : dvv (dcs x) = x := by
  induction x using Nat.strongRecOn with
  | _ x ih =>
    rcases Nat.eq_zero_or_pos x with h | h
    · subst h; rw [dcs_zero]; rfl
    · rw [dcs_pos (by omega)]
      simp only [dvv]
      rw [ih _ (by omega)]; omega
theorem dcs_lt (x : Nat) : Dg (dcs x) := by
  induction x using Nat.strongRecOn with
  | _ x ih =>
    rcases Nat.eq_zero_or_pos x with h | h
    · subst h; rw [dcs_zero]; intro y hy; cases hy
    · rw [dcs_pos (by omega)]
      intro y hy
      rcases List.mem_cons.1 hy with rfl | hy
      · omega
      · exact ih _ (by omega) y hy
theorem dcs_nil {x : Nat} : (dcs x).length = 0 ↔ x = 0 := by
  constructor
  · intro h
    have h0 := List.eq_nil_of_length_eq_zero h
    have := dvv_dig x
    rw [h0] at this
    exact this.symm
  · rintro rfl; rw [dcs_zero]; rfl
theorem dcs_div {x : Nat} (h : x ≠ 0) : (dcs (x / 10000)).length + 1 = (dcs x).length := by rw [dcs_pos h]; rfl
theorem dcs_len (x : Nat) : (dcs x).length ≤ sz x := by
  induction x using Nat.strongRecOn with
  | _ x ih =>
    by_cases h0 : x = 0
    · subst h0; rw [dcs_zero]; exact Nat.zero_le _
    · have h1 := dcs_div h0
      have h2 := ih (x / 10000) (by omega)
      have h3 : sz (x / 10000) + 1 ≤ sz x := by
        have h4 : x < 2 ^ sz x := lt_sz x
        rcases hs : sz x with _ | k
        · rw [hs] at h4; simp at h4; omega
        · rw [hs] at h4
          have : sz (x / 10000) ≤ k := sz_le.2 (by rw [Nat.pow_succ] at h4; omega)
          omega
      omega
theorem dvv_append (a b : List Nat) : dvv (a ++ b) = dvv a + 10000 ^ a.length * dvv b := by
  induction a with
  | nil => simp [dvv]
  | cons x a ih =>
    simp only [List.cons_append, dvv, ih, List.length_cons, Nat.pow_succ]
    rw [Nat.mul_add, ← Nat.mul_assoc, Nat.mul_comm 10000 (10000 ^ a.length)]; omega
theorem dvv_zero : ∀ {l : List Nat}, (∀ x ∈ l, x = 0) → dvv l = 0
  | [], _ => rfl
  | x :: l, h => by
    have h1 := h x (List.mem_cons_self ..)
    have h2 := dvv_zero (l := l) fun y hy => h y (List.mem_cons_of_mem _ hy)
    simp [dvv, h1, h2]
theorem Dg.take {l : List Nat} (h : Dg l) (k : Nat) : Dg (l.take k) := fun x hx => h x (List.mem_of_mem_take hx)
theorem Dg.snoc {l : List Nat} (h : Dg l) {x : Nat} (hx : x < 10000) : Dg (l ++ [x]) := by
  intro y hy
  rcases List.mem_append.1 hy with hy | hy
  · exact h y hy
  · rw [List.mem_singleton.1 hy]; exact hx
theorem Dg.nil : Dg [] := fun x h => by cases h
/-- a row without a nought on top is that of its number -/
theorem dcs_of : ∀ {l : List Nat}, Dg l → (∀ x, l[l.length - 1]? = some x → x ≠ 0) → l = dcs (dvv l)
  | [], _, _ => by rw [dvv, dcs_zero]
  | x :: l, h, hl => by
    have h1 := h x (List.mem_cons_self ..)
    have h2 : l = dcs (dvv l) := dcs_of (fun y hy => h y (List.mem_cons_of_mem _ hy)) fun y hy => hl y (by
      rcases l with _ | ⟨z, t⟩
      · simp at hy
      · simpa using hy)
    have h3 : x + 10000 * dvv l ≠ 0 := by
      intro e
      have hx : x = 0 := by omega
      have hd : dvv l = 0 := by omega
      rw [hd, dcs_zero] at h2
      subst h2
      exact hl x rfl hx
    simp only [dvv]
    rw [dcs_pos h3, show (x + 10000 * dvv l) % 10000 = x by omega, show (x + 10000 * dvv l) / 10000 = dvv l by omega, ← h2]
theorem dcs_take {l : List Nat} {m : Nat} (hd : Dg l) (hm : m ≤ l.length) (h1 : ∀ j x, m ≤ j → l[j]? = some x → x = 0) (h2 : 0 < m → ∃ y, l[m - 1]? = some y ∧ y ≠ 0) : l.take m = dcs (dvv l) := by
  have e : dvv l = dvv (l.take m) := by
    conv => lhs; rw [← List.take_append_drop m l, dvv_append]
    rw [dvv_zero (l := l.drop m) fun x hx => ?_]
    · omega
    · obtain ⟨j, hj⟩ := List.mem_iff_getElem?.1 hx
      rw [List.getElem?_drop] at hj
      exact h1 (m + j) x (by omega) hj
  rw [e]
  refine dcs_of (hd.take m) fun x hx => ?_
  have hl : (l.take m).length = m := by rw [List.length_take]; omega
  rw [hl] at hx
  rcases Nat.eq_zero_or_pos m with h0 | h0
  · subst h0; simp at hx
  · obtain ⟨y, hy, hy0⟩ := h2 h0
    rw [List.getElem?_take_of_lt (by omega), hy] at hx
    injection hx with hx; rw [← hx]; exact hy0
theorem dvv_drop {l : List Nat} {j d : Nat} (h : l[j]? = some d) : dvv (l.drop j) = d + 10000 * dvv (l.drop (j + 1)) := by
  obtain ⟨hj, he⟩ := List.getElem?_eq_some_iff.1 h
  rw [List.drop_eq_getElem_cons hj, he]; rfl
theorem ddrop_set {l : List Nat} {j y : Nat} (h : j < l.length) : (l.set j y).drop j = y :: l.drop (j + 1) := by
  rw [List.drop_eq_getElem_cons (by simpa using h)]
  simp only [List.getElem_set_self]
  rw [List.drop_set_of_lt (by omega)]
theorem Dg.set {l : List Nat} (h : Dg l) {j y : Nat} (hy : y < 10000) : Dg (l.set j y) := by
  intro x hx
  rcases List.mem_or_eq_of_mem_set hx with hx | rfl
  · exact h x hx
  · exact hy
theorem Dg.zeros (n : Nat) : Dg (List.replicate n 0) := by
  intro x hx; rw [List.eq_of_mem_replicate hx]; decide
/-- one step of a division from above -/
theorem div_step {V kd d : Nat} (hk : 0 < kd) : (d + 10000 * V) / kd = (V % kd * 10000 + d) / kd + 10000 * (V / kd) ∧ (d + 10000 * V) % kd = (V % kd * 10000 + d) % kd ∧ (d < 10000 → (V % kd * 10000 + d) / kd < 10000) := by
  have e := Nat.div_add_mod V kd
  have e2 : d + 10000 * V = (V % kd * 10000 + d) + kd * (10000 * (V / kd)) := by
    conv => lhs; rw [← e]
    grind
  refine ⟨?_, ?_, fun hd => ?_⟩
  · rw [e2, Nat.add_mul_div_left _ _ hk]
  · rw [e2, Nat.add_mul_mod_self_left]
  · have := Nat.mod_lt V hk
    exact (Nat.div_lt_iff_lt_mul hk).2 (by grind)
/-- a row of digits, as a leaf -/
def dl (l : List Nat) : LV := .row (l.map fun (x : Nat) => [.int .i64 (x : Int)])
theorem dlm_len (l : List Nat) : (l.map fun (x : Nat) => [LV.int .i64 (x : Int)]).length = l.length := by simp
theorem dlm_get {l : List Nat} {i x : Nat} (h : l[i]? = some x) : (l.map fun (x : Nat) => [LV.int .i64 (x : Int)])[i]? = some [.int .i64 (x : Int)] := by rw [List.getElem?_map, h]; rfl
abbrev nd (x : Nat) : LV := dl (dcs x)
end Orr

namespace Orr
open Go Go.Proofs
set_option maxRecDepth 10000
abbrev dlm (l : List Nat) : List (List LV) := l.map fun (x : Nat) => [.int .i64 (x : Int)]
theorem c_fcut {l : List Nat} (hd : Dg l) : Does Tryz.prog 162 [.one (.row (dlm l))] [.one (nd (dvv l))] := by
  refine fnD Tryz.func162 rfl (ln 0 rfl rfl fun hl => ?_)
  rw [List.length_map] at hl
  refine go tt [] rfl trivial ?_
  refine lp (S := Nat) 0 (fun L1 n => (3, .v (.one (.int .i64 (n : Int)))) :: L1) (fun _ => []) id (fun n => n ≤ l.length ∧ ∀ j x, n ≤ j → l[j]? = some x → x = 0) (dlm l).length ⟨by simp, fun j x h1 h2 => by
    have := (List.getElem?_eq_some_iff.1 h2).1; simp at h1; omega⟩ rfl (fun _ _ => rfl) rfl fun n ⟨h1, h2⟩ => ?_
  cases n with
  | zero => exact en tt [.g 8 false (by simp), .f rfl, .i 0] rfl (by have := dcs_take hd h1 h2 (fun h => by omega); unfold nd; rw [← this]; simp [dl]) (by simp [AllP])
  | succ n =>
    obtain ⟨x, hx⟩ : ∃ x, l[n]? = some x := ⟨_, List.getElem?_eq_getElem (by omega)⟩
    by_cases h0 : x = 0
    · refine go tt [.g 8 true (by simp), .r 11 (v := .one (.int .i64 (n : Int))) (by simp), .x (dlm_get hx), .t (by simp [h0]), .r 17 (v := .one (.int .i64 (n : Int))) (by simp)] rfl (by simp [AllP]; omega) ?_
      exact rd n (by simp) ⟨by omega, fun j y h3 h4 => by
          rcases Nat.eq_or_lt_of_le h3 with rfl | h3
          · rw [hx] at h4; injection h4 with h4; rw [← h4, h0]
          · exact h2 j y h3 h4⟩ rfl
    · exact en tt [.g 8 true (by simp), .r 11 (v := .one (.int .i64 (n : Int))) (by simp), .x (dlm_get hx), .f (by simp [h0]), .i (n + 1)] rfl (by have := dcs_take hd h1 h2 (fun _ => ⟨x, hx, h0⟩); unfold nd; rw [← this]; simp [dl, List.map_take]) (by simp [AllP] <;> omega)
/-- a division by a small number -/
theorem c_small {x kd : Nat} (hxs : sz x ≤ 100000000) (hk : 0 < kd ∧ kd ≤ 65536) : Does Tryz.prog 161 [.one (nd x), .one (.int .i64 (kd : Int))] [.one (nd (x / kd)), .one (.int .i64 ((x % kd : Nat) : Int))] := by
  have hln := Nat.le_trans (dcs_len x) hxs
  obtain ⟨l, hl⟩ : ∃ l, l = dcs x := ⟨_, rfl⟩
  have hx : dvv l = x := by rw [hl, dvv_dig]
  have hd : Dg l := by rw [hl]; exact dcs_lt x
  show Does Tryz.prog 161 [.one (.row (dlm (dcs x))), .one (.int .i64 (kd : Int))] _
  rw [← hl] at hln ⊢
  rw [← hx]
  have hll := dlm_len l
  refine fnD Tryz.func161 rfl ?_
  refine go tt [.i (dlm l).length, .i (dlm l).length] rfl (by simp [AllP]; omega) ?_
  rw [hll, show List.replicate l.length [LV.int .i64 0] = dlm (List.replicate l.length 0) from by simp [dlm]]
  refine lp (S := Nat × List Nat × Nat) 1 (fun L1 s => (8, .v (.one (.int .i64 ((s.1 : Int) - 1)))) :: (7, .v (.one (.int .i64 (s.2.2 : Int)))) :: L1) (fun s => [.row false 3 1 (dlm s.2.1)]) (fun s => s.1) (fun s => s.1 ≤ l.length ∧ s.2.1.length = l.length ∧ Dg s.2.1 ∧ dvv (s.2.1.drop s.1) = dvv (l.drop s.1) / kd ∧ s.2.2 = dvv (l.drop s.1) % kd) (l.length, List.replicate l.length 0, 0) ⟨Nat.le_refl _, by simp, Dg.zeros _, by simp [dvv], by simp [dvv]⟩ rfl (fun _ _ => rfl) rfl fun ⟨k, o, R⟩ ⟨j1, j2, j3, j4, hR⟩ => ?_
  dsimp only at j1 j2 j3 j4 hR ⊢
  cases k with
  | zero =>
    have cc := c_fcut j3
    rw [List.drop_zero, List.drop_zero] at j4
    rw [j4] at cc
    exact en tt [.f (by simp), .c [] cc] rfl (by rw [hR, List.drop_zero]) trivial
  | succ k =>
    obtain ⟨d, hdk⟩ : ∃ d, l[k]? = some d := ⟨_, List.getElem?_eq_getElem (by omega)⟩
    have hd0 := hd d (List.mem_of_getElem? hdk)
    have hdd := dvv_drop hdk
    obtain ⟨s1, s2, s3⟩ := div_step (V := dvv (l.drop (k + 1))) (kd := kd) (d := d) hk.1
    rw [← hdd] at s1 s2
    have hr := Nat.mod_lt (dvv (l.drop (k + 1))) hk.1
    rw [← hR] at s1 s2 s3 hr
    have e : ((k + 1 : Nat) : Int) - 1 = (k : Int) := by omega
    have htd : ((R : Int) * 10000 + (d : Int)).tdiv (kd : Int) = (((R * 10000 + d) / kd : Nat) : Int) := rfl
    have hle := Nat.div_le_self (R * 10000 + d) kd
    have htb : 0 ≤ ((R : Int) * 10000 + (d : Int)).tdiv (kd : Int) ∧ ((R : Int) * 10000 + (d : Int)).tdiv (kd : Int) ≤ 655369999 := by
      rw [htd]; revert hle; generalize (R * 10000 + d) / kd = Q; intro hle; omega
    rw [e]
    refine go tt [.t (by simp), .x (dlm_get hdk), .r 26 (eI (b := ((R * 10000 + d : Nat) : Int)) (by omega)), .r 31 (eI (b := (((R * 10000 + d) / kd : Nat) : Int)) (by rfl)), .i k, .r 35 (eI (b := (((R * 10000 + d) % kd : Nat) : Int)) (by rfl))] rfl (by simp [AllP]; omega) ?_
    exact rd (k, o.set k ((R * 10000 + d) / kd), (R * 10000 + d) % kd) (by dsimp only; omega) ⟨by dsimp only; omega, by simp [j2], j3.set (s3 hd0), by dsimp only; rw [ddrop_set (by omega)]; simp only [dvv]; rw [j4, s1], by dsimp only; exact s2.symm⟩ (by simp [dlm, List.map_set]; rfl)
theorem sz_div (x k : Nat) : sz (x / k) ≤ sz x := sz_mono (Nat.div_le_self _ _)
theorem limbs_snoc {x y : Nat} {o : List Nat} (h : limbs x = o ++ limbs y) (h0 : y ≠ 0) : limbs x = (o ++ [y % 4294967296]) ++ limbs (y / 4294967296) := by
  rw [h, limbs_pos h0]; simp
theorem lm_snoc (o : List Nat) (z : Nat) : lm (o ++ [z]) = lm o ++ [[.int .u32 (z : Int)]] := by simp [lm]
theorem c_ToN {x : Nat} (hx : sz x ≤ 100000000) : Does Tryz.prog 96 [.one (nd x)] [lr (limbs x)] := by
  have hlx := limbs_len hx
  refine fnD Tryz.func96 rfl ?_
  refine go tt [.o 3 169 1] rfl trivial ?_
  refine lp (S := Nat × List Nat) 1 (fun L1 s => (0, .v (.one (nd s.1))) :: (3, .v (.one (.orow 0 1 none))) :: L1) (fun s => [.row false 169 1 (lm s.2)]) (fun s => s.1) (fun s => limbs x = s.2 ++ limbs s.1 ∧ s.1 ≤ x) (x, []) ⟨rfl, Nat.le_refl _⟩ rfl (fun _ _ => rfl) rfl fun ⟨y, o⟩ ⟨j1, j2⟩ => ?_
  dsimp only at j1 j2 ⊢
  by_cases h0 : y = 0
  · subst h0
    rw [limbs_zero, List.append_nil] at j1
    rw [j1]
    exact en tt [.f (by simp [dcs_zero])] rfl rfl trivial
  · have hs := limbs_snoc j1 h0
    have hsy : sz y ≤ 100000000 := Nat.le_trans (sz_mono j2) hx
    have c1 := c_small (x := y) (kd := 65536) hsy (by decide)
    have c2 := c_small (x := y / 65536) (kd := 65536) (Nat.le_trans (sz_div _ _) hsy) (by decide)
    have hl : (dcs y).length ≠ 0 := fun h => h0 (dcs_nil.1 h)
    have ol : o.length ≤ (limbs x).length := by rw [j1]; simp
    have e : y / 65536 % 65536 * 65536 + y % 65536 = y % 4294967296 := by omega
    have e2 : y / 65536 / 65536 = y / 4294967296 := by omega
    refine go tt [.t (by simp; omega), .c [] c1, .c [] c2, .r 26 (e32 (b := ((y % 4294967296 : Nat) : Int)) (by omega)), .s (sz := 1) (l := [[.int .u32 ((y % 4294967296 : Nat) : Int)]]) (fun c hc => by rw [List.mem_singleton.1 hc]; rfl)] rfl (by simp [AllP, lm_len]; omega) ?_
    rw [← e2] at hs
    exact rd (y / 65536 / 65536, o ++ [y % 4294967296]) (by dsimp only; omega) ⟨hs, by dsimp only; omega⟩ (by rw [lm_snoc]; rfl)
/-- a whole number of the reference -/
abbrev ri (z : Int) : List LV := [nd z.natAbs, sg z]
theorem ri_mk (b : Bool) (m : Nat) : [nd m, LV.bool (b && decide (0 < m))] = ri (ofSign b m) := by
  simp only [ri, sg, ofSign_natAbs, ofSign_neg]
theorem nd_len (x : Nat) : (0 < (dcs x).length) ↔ 0 < x := by
  have := dcs_nil (x := x); omega
theorem c_fmade (b : Bool) (m : Nat) : Does Tryz.prog 97 [.one (nd m), .one (.bool b)] [.agg (ri (ofSign b m))] := by
  rw [← ri_mk]
  have e := nd_len m
  cases b with
  | false => exact w tt Tryz.func97 rfl [.g 7 false rfl] rfl rfl trivial
  | true => exact w tt Tryz.func97 rfl [.g 7 true rfl] rfl (by simp [e]) trivial
theorem c_fZero {z : Int} : Does Tryz.prog 139 [.agg (ri z)] [.one (.bool (decide (z = 0)))] :=
  w tt Tryz.func139 rfl [] rfl (by have h := dcs_nil (x := z.natAbs); simp only [dlm_len]; congr 3; rw [decide_eq_decide]; omega) trivial
theorem c_To {z : Int} (hz : isz z ≤ 100000000) : Does Tryz.prog 46 [.agg (ri z)] [.agg (ofI z)] :=
  w tt Tryz.func46 rfl [.c [] (c_ToN hz)] rfl rfl trivial
theorem eBo {a b : Bool} (h : a = b) : TV.one (LV.bool a) = .one (.bool b) := h ▸ rfl
theorem dlm_app (l : List Nat) (x : Nat) : dlm (l ++ [x]) = dlm l ++ [[.int .i64 (x : Int)]] := by simp [dlm]
theorem dcs_snoc {x y : Nat} {o : List Nat} (h : dcs x = o ++ dcs y) (h0 : y ≠ 0) : dcs x = (o ++ [y % 10000]) ++ dcs (y / 10000) := by
  rw [h, dcs_pos h0]; simp
theorem c_fOf' {b : Bool} {x : Nat} (hx : x ≤ 4000000000000000000) (hb : b = true → 0 < x) : Does Tryz.prog 49 [.one (.int .i64 (ofSign b x))] [.agg (ri (ofSign b x))] := by
  have hl : (dcs x).length ≤ 100 := by
    have := dcs_len x
    have h2 : sz x ≤ 64 := sz_le.2 (by omega)
    omega
  have hm := c_fmade b x
  refine fnD Tryz.func49 rfl ?_
  cases b with
  | false =>
    show AK Tryz.prog _ _ _ (argsA 0 [.one (.int .i64 (x : Int))]) []
    refine go tt [.f (by simp <;> omega), .r 3 (eBo (b := false) (by simp)), .f rfl, .o 4 3 1] rfl trivial ?_
    refine lp (S := Nat × List Nat) 2 (fun L1 s => (0, .v (.one (.int .i64 (s.1 : Int)))) :: (4, .v (.one (.orow 1 1 none))) :: L1) (fun s => [.blk 47 [.nils, .bool false], .row false 3 1 (dlm s.2)]) (fun s => s.1) (fun s => dcs x = s.2 ++ dcs s.1 ∧ s.1 ≤ x) (x, []) ⟨rfl, Nat.le_refl _⟩ rfl (fun _ _ => rfl) rfl fun ⟨y, o⟩ ⟨j1, j2⟩ => ?_
    dsimp only at j1 j2 ⊢
    by_cases h0 : y = 0
    · subst h0
      rw [dcs_zero, List.append_nil] at j1
      rw [← j1]
      exact en tt [.f (by simp), .c [] hm] rfl rfl trivial
    · have hs := dcs_snoc j1 h0
      have ol : o.length ≤ (dcs x).length := by rw [j1]; simp
      refine go tt [.t (by simp; omega), .r 18 (eI (b := ((y % 10000 : Nat) : Int)) (by rfl)), .s (sz := 1) (l := [[.int .i64 ((y % 10000 : Nat) : Int)]]) (fun c hc => by rw [List.mem_singleton.1 hc]; rfl), .r 22 (eI (b := ((y / 10000 : Nat) : Int)) (by rfl))] rfl (by simp [AllP, dlm_len]; omega) ?_
      exact rd (y / 10000, o ++ [y % 10000]) (by dsimp only; omega) ⟨hs, by dsimp only; omega⟩ (by rw [dlm_app]; rfl)
  | true =>
    show AK Tryz.prog _ _ _ (argsA 0 [.one (.int .i64 (-(x : Int)))]) []
    refine go tt [.f (by simp <;> omega), .r 3 (eBo (b := true) (by simpa using hb rfl)), .t rfl, .r 0 (eI (b := (x : Int)) (by omega)), .o 4 3 1] rfl (by simp [AllP]; omega) ?_
    refine lp (S := Nat × List Nat) 2 (fun L1 s => (0, .v (.one (.int .i64 (s.1 : Int)))) :: (4, .v (.one (.orow 1 1 none))) :: L1) (fun s => [.blk 47 [.nils, .bool false], .row false 3 1 (dlm s.2)]) (fun s => s.1) (fun s => dcs x = s.2 ++ dcs s.1 ∧ s.1 ≤ x) (x, []) ⟨rfl, Nat.le_refl _⟩ rfl (fun _ _ => rfl) rfl fun ⟨y, o⟩ ⟨j1, j2⟩ => ?_
    dsimp only at j1 j2 ⊢
    by_cases h0 : y = 0
    · subst h0
      rw [dcs_zero, List.append_nil] at j1
      rw [← j1]
      exact en tt [.f (by simp), .c [] hm] rfl rfl trivial
    · have hs := dcs_snoc j1 h0
      have ol : o.length ≤ (dcs x).length := by rw [j1]; simp
      refine go tt [.t (by simp; omega), .r 18 (eI (b := ((y % 10000 : Nat) : Int)) (by rfl)), .s (sz := 1) (l := [[.int .i64 ((y % 10000 : Nat) : Int)]]) (fun c hc => by rw [List.mem_singleton.1 hc]; rfl), .r 22 (eI (b := ((y / 10000 : Nat) : Int)) (by rfl))] rfl (by simp [AllP, dlm_len]; omega) ?_
      exact rd (y / 10000, o ++ [y % 10000]) (by dsimp only; omega) ⟨hs, by dsimp only; omega⟩ (by rw [dlm_app]; rfl)
theorem c_fOf {n : Int} (hn : -4000000000000000000 ≤ n ∧ n ≤ 4000000000000000000) : Does Tryz.prog 49 [.one (.int .i64 n)] [.agg (ri n)] := by
  have e : ofSign (decide (n < 0)) n.natAbs = n := by unfold ofSign; by_cases h : n < 0 <;> simp [h] <;> omega
  have h := c_fOf' (b := decide (n < 0)) (x := n.natAbs) (by omega) (fun h => by have := of_decide_eq_true h; omega)
  rwa [e] at h
end Orr

namespace Orr
open Go Go.Proofs
set_option maxRecDepth 10000
abbrev fr (q : Rat) : List LV := ri q.num ++ ri (q.den : Int)
theorem dcs_one : dcs 1 = [1] := by rw [dcs_pos (by decide)]; rw [dcs_zero]
theorem c_fMake1 {n : Int} : Does Tryz.prog 83 [.agg (ri n), .agg (ri 1)] [.agg (fr (n : Rat))] := by
  have h0 : (dlm (dcs (1 : Int).natAbs))[0]? = some [LV.int .i64 1] := by rw [show (1 : Int).natAbs = 1 from rfl, dcs_one]; rfl
  have h1 : decide (((dlm (dcs (1 : Int).natAbs)).length : Int) = 1) = true := by rw [show (1 : Int).natAbs = 1 from rfl, dcs_one]; rfl
  exact w tt Tryz.func83 rfl [.c [] (c_fZero (z := 1)), .f rfl, .f rfl, .g 19 true h1, .x h0, .t rfl] rfl rfl trivial
theorem c_OfR1 {n : Int} (hn : -4000000000000000000 ≤ n ∧ n ≤ 4000000000000000000) : Does Tryz.prog 22 [.one (.int .i64 n), .one (.int .i64 1)] [.agg (fr (n : Rat))] :=
  w tt Tryz.func22 rfl [.c [] (c_fOf hn), .c [] (c_fOf (n := 1) (by decide)), .c [] c_fMake1] rfl rfl trivial
theorem c_ToR {q : Rat} (hq : Qs 100000000 q) : Does Tryz.prog 21 [.agg (fr q)] [.agg (rl q)] :=
  w tt Tryz.func21 rfl [.c [] (c_To hq.1), .c [] (c_To hq.2)] rfl rfl trivial
end Orr

namespace Orr
open Go Go.Proofs Orq
set_option maxRecDepth 10000
theorem goF_br {Bc : Tm → List Ct} {Br : Tm → List (List LV)} {t : Rat} : ∀ {k : Nat} {c c' : Cr} {r r' : List (List LV)} {n n' : Int}, goF Bc Br t k c r n = some (c', r', n') → r' = r ∨ ∃ a, r' = Br a
  | 0, _, _, _, _, _, _, h => by cases h
  | k + 1, c, c', r, r', n, n', h => by
    simp only [goF] at h
    obtain ⟨ws, _, h⟩ := Option.bind_eq_some_iff.1 h
    obtain ⟨o, _, h⟩ := Option.bind_eq_some_iff.1 h
    cases o with
    | none => injection h with h; injection h with _ h; injection h with h _; exact .inl h.symm
    | some a =>
      dsimp only at h
      split at h
      · injection h with h; injection h with _ h; injection h with h _; exact .inl h.symm
      · obtain ⟨w2, _, h⟩ := Option.bind_eq_some_iff.1 h
        rcases goF_br h with e | e
        · exact .inr ⟨a, e⟩
        · exact .inr e
abbrev wkP : List Pt := [⟨run1, 1⟩, ⟨still 1 0, 2⟩]
def lastI (l : List LV) : Int := match l with
  | [_, _, _, _, .int _ z] => z
  | _ => 0
theorem lastI_pt (l : List Pt) : (ptrow l).map lastI = l.map (·.id) := by
  simp only [ptrow, List.map_map]; rfl
theorem wk_go : (goF (bcS wkP) (brS wkP) 1 5 (begS wkP (tq 0)) (brS wkP (tq 0)) 0).map (fun x => (x.2.1.map lastI, x.2.2)) = some ([2, 1], 1) := by decide +kernel
theorem wk_row : (rowA (tq 0) wkP).map (·.id) = [1, 2] := by decide +kernel
theorem sc_run1 : Sc run1 := ⟨nml_run1, cs_run1.up (by decide) (by decide)⟩
theorem wk_sc : ∀ p ∈ wkP, Sc p.c := fun p hp => by
  rcases List.mem_cons.1 hp with rfl | hp
  · exact sc_run1
  · rw [List.mem_singleton.1 hp]; exact sc_still (by decide) (by decide)
theorem d_wakes18 : Does Tryz.prog 45 [] [.one (.bool true)] := by
  have hq : Qs 900 (ratOf 0 0) := ⟨by decide, by decide⟩
  have ez : ratOf 0 0 = 0 := by decide
  have zp : IsPts 4294967294 1073741824 (ptrow wkP) wkP := isPts_n fun p hp => (wk_sc p hp).pt
  have hnl : newL [] wkP = (wkP, 0) := rfl
  have cn := c_SoNew (qs := wkP) zp (by decide) hnl wk_sc (by decide) isInt_zero isInt_zero (by decide) (by decide) hq
  rw [ez] at cn
  have ci := c_SIds (c := begS wkP (tq 0)) (l := wkP) (s := rowA (tq 0) wkP) (by rw [rowA_len]; decide)
  rw [wk_row] at ci
  have cs := c_Same (a := [1, 2]) (b := [1, 2]) (by decide) (by decide)
  have cs2 := c_Same (a := [2, 1]) (b := [2, 1]) (by decide) (by decide)
  obtain ⟨x, hx, hx2⟩ := Option.map_eq_some_iff.1 wk_go
  obtain ⟨c', r', n'⟩ := x
  injection hx2 with h3 h4
  dsimp only at h3 h4
  subst h4
  obtain ⟨s, hs, hsl⟩ : ∃ s, r' = ptrow s ∧ s.length ≤ 1000000 := by
    rcases goF_br hx with e | ⟨a, e⟩
    · exact ⟨_, e, by rw [rowA_len]; decide⟩
    · exact ⟨_, e, by rw [rowA_len]; decide⟩
  subst hs
  rw [lastI_pt] at h3
  have hB := bcS_ok wk_sc (by decide)
  have hv : Va (tq 0) := va_q (by rw [← ez]; exact hq)
  have hc : CrOk (begS wkP (tq 0)) := ⟨hv, fun w hw => by
      obtain ⟨x, hx, rfl⟩ := List.mem_map.1 hw
      exact ⟨hB.p _ hv x (sortC_mem hx), fun t ht => by cases ht⟩, by
      show ((sortC (bcS wkP (tq 0))).map fresh).length ≤ 1000
      rw [List.length_map, sortC_len]; exact hB.n _ hv⟩
  have ca := c_SAdv (t := 1) ⟨by decide, by decide⟩ wk_sc (by decide) hc ⟨by decide, by decide⟩ (by decide +kernel) hx
  have ci2 := c_SIds (c := c') (l := wkP) (s := s) hsl
  rw [h3] at ci2
  have co := c_OfR1 (n := 1) (by decide)
  have ct := c_ToR (q := 1) ⟨by decide, by decide⟩
  refine fnD Tryz.func45 rfl ?_
  exact en tt [.z 6, .c [] c_Run1, .c [] (c_Still (by decide) (by decide)), .c [0] cn, .g 21 false rfl, .g 25 false rfl, .c [0] ci, .c [] cs, .f rfl, .c [] co, .c [] ct, .c [0] ca, .g 41 true rfl, .g 45 true rfl, .c [0] ci2, .c [] cs2] rfl rfl trivial
end Orr

namespace Orr
open Go Go.Proofs Orq
set_option maxRecDepth 10000
end Orr

namespace Orq
open Orr Go
theorem germs_ex {a : Tm} (ha : Va a) : ∀ (L : List (List Int)), (∀ p ∈ L, Dp p) → ∃ y, cmpR a y = -1 ∧ ∀ q, cmpR a q = -1 → q ≤ y → ∀ p ∈ L, germ (sgA a) p = sgnQ (pev p q)
  | [], _ => by
    obtain ⟨y, hy⟩ := ha.cut.hi
    exact ⟨y, hy, fun q _ _ p hp => by cases hp⟩
  | p :: L, h => by
    obtain ⟨y, y1, y2⟩ := germs_ex ha L (fun q hq => h q (List.mem_cons_of_mem _ hq))
    by_cases h0 : p.length = 0
    · obtain rfl := List.eq_nil_of_length_eq_zero h0
      refine ⟨y, y1, fun q q1 q2 r hr => ?_⟩
      rcases List.mem_cons.1 hr with rfl | hr
      · rw [germ_nil]; exact (sgnQ_zero.2 rfl).symm
      · exact y2 q q1 q2 r hr
    · obtain ⟨⟨z, z1, z2⟩, _⟩ := germ_rs ha (h p (by simp)) h0
      refine ⟨if y ≤ z then y else z, by split <;> assumption, fun q q1 q2 r hr => ?_⟩
      rcases List.mem_cons.1 hr with rfl | hr
      · rw [← ev_cz]; exact (z2 q q1 (by grind)).symm
      · exact y2 q q1 (by grind) r hr
/-! ### sorting, for a strict order -/
section Srt
variable {α : Type} {lt : α → α → Bool} {R : α → α → Prop}
theorem pw_unique (irr : ∀ x, ¬ R x x) (tr : ∀ x y z, R x y → R y z → R x z) : ∀ {l m : List α}, l.Pairwise R → m.Pairwise R → (∀ x, x ∈ l ↔ x ∈ m) → l = m
  | [], [], _, _, _ => rfl
  | [], y :: m, _, _, h => by have := (h y).2 (by simp); cases this
  | x :: l, [], _, _, h => by have := (h x).1 (by simp); cases this
  | x :: l, y :: m, hl, hm, h => by
    rw [List.pairwise_cons] at hl hm
    have e : x = y := by
      rcases List.mem_cons.1 ((h x).1 (by simp)) with e | h1
      · exact e
      · rcases List.mem_cons.1 ((h y).2 (by simp)) with e | h2
        · exact e.symm
        · exact absurd (tr _ _ _ (hl.1 y h2) (hm.1 x h1)) (irr x)
    subst e
    rw [pw_unique irr tr hl.2 hm.2 fun z => ?_]
    constructor
    · intro hz
      rcases List.mem_cons.1 ((h z).1 (List.mem_cons_of_mem _ hz)) with e | h1
      · subst e; exact absurd (hl.1 z hz) (irr z)
      · exact h1
    · intro hz
      rcases List.mem_cons.1 ((h z).2 (List.mem_cons_of_mem _ hz)) with e | h1
      · subst e; exact absurd (hm.1 z hz) (irr z)
      · exact h1
theorem posG_spec {out : List α} {x : α} : ∀ k, k ≤ out.length → (∀ j y, posG lt out x k ≤ j → j < k → out[j]? = some y → lt x y = true) ∧ (0 < posG lt out x k → ∃ y, out[posG lt out x k - 1]? = some y ∧ lt x y = false)
  | 0, _ => ⟨fun j y _ h => by omega, fun h => by simp [posG] at h⟩
  | k + 1, hk => by
    obtain ⟨y, hy⟩ : ∃ y, out[k]? = some y := ⟨_, List.getElem?_eq_getElem (by omega)⟩
    by_cases h : lt x y = true
    · rw [posG_on hy h]
      obtain ⟨h1, h2⟩ := posG_spec (out := out) (x := x) k (by omega)
      refine ⟨fun j z a1 a2 a3 => ?_, h2⟩
      by_cases e : j = k
      · subst e; rw [hy] at a3; injection a3 with a3; subst a3; exact h
      · exact h1 j z a1 (by omega) a3
    · have h : lt x y = false := by simpa using h
      rw [posG_off hy h]
      exact ⟨fun j z a1 a2 _ => by omega, fun _ => ⟨y, by simpa using hy, h⟩⟩
theorem insG_pw (tr : ∀ x y z, R x y → R y z → R x z) {out : List α} {x : α} (ho : out.Pairwise R) (h1 : ∀ y ∈ out, lt x y = true → R x y) (h2 : ∀ y ∈ out, lt x y = false → R y x) : (insG lt out x).Pairwise R := by
  obtain ⟨s1, s2⟩ := posG_spec (lt := lt) (out := out) (x := x) out.length (Nat.le_refl _)
  have hle := posG_le lt out x out.length
  unfold insG
  obtain ⟨k, hk⟩ : ∃ k, k = posG lt out x out.length := ⟨_, rfl⟩
  rw [← hk] at s1 s2 hle ⊢
  have hd : (out.take k ++ out.drop k).Pairwise R := by rw [List.take_append_drop]; exact ho
  obtain ⟨d1, d2, d3⟩ := List.pairwise_append.1 hd
  have hR : ∀ y ∈ out.drop k, R x y := fun y hy => by
    obtain ⟨i, hi⟩ := List.getElem?_of_mem hy
    rw [List.getElem?_drop] at hi
    have : k + i < out.length := (List.getElem?_eq_some_iff.1 hi).1
    exact h1 y (List.mem_of_mem_drop hy) (s1 (k + i) y (by omega) this hi)
  have hL : ∀ y ∈ out.take k, R y x := fun y hy => by
    obtain ⟨i, hi⟩ := List.getElem?_of_mem hy
    have hik : i < k := by have := (List.getElem?_eq_some_iff.1 hi).1; simp at this; omega
    rw [List.getElem?_take_of_lt hik] at hi
    obtain ⟨z, z1, z2⟩ := s2 (by omega)
    have hz := h2 z (List.mem_of_getElem? z1) z2
    by_cases e : i = k - 1
    · subst e; rw [hi] at z1; injection z1 with z1; subst z1; exact hz
    · have hp := List.pairwise_iff_getElem.1 ho i (k - 1) (by omega) (by omega) (by omega)
      obtain ⟨_, e1⟩ := List.getElem?_eq_some_iff.1 hi
      obtain ⟨_, e2⟩ := List.getElem?_eq_some_iff.1 z1
      rw [e1, e2] at hp
      exact tr _ _ _ hp hz
  refine List.pairwise_append.2 ⟨d1, List.pairwise_cons.2 ⟨hR, d2⟩, fun y hy z hz => ?_⟩
  rcases List.mem_cons.1 hz with rfl | hz
  · exact hL y hy
  · exact d3 y hy z hz
theorem foldG_pw (tr : ∀ x y z, R x y → R y z → R x z) {S : α → Prop} (h1 : ∀ x y, S x → S y → lt x y = true → R x y) {D : α → α → Prop} (h2 : ∀ x y, S x → S y → D y x → lt x y = false → R y x) :
    ∀ (l acc : List α), acc.Pairwise R → (∀ x ∈ acc, S x) → (∀ x ∈ l, S x) → l.Pairwise D → (∀ x ∈ acc, ∀ y ∈ l, D x y) → (l.foldl (insG lt) acc).Pairwise R
  | [], acc, ha, _, _, _, _ => ha
  | x :: l, acc, ha, hs, hl, hd, hx => by
    rw [List.pairwise_cons] at hd
    refine foldG_pw tr h1 h2 l (insG lt acc x) ?_ ?_ (fun y hy => hl y (List.mem_cons_of_mem _ hy)) hd.2 ?_
    · exact insG_pw tr ha (fun y hy => h1 x y (hl x (by simp)) (hs y hy)) (fun y hy => h2 x y (hl x (by simp)) (hs y hy) (hx y hy x (by simp)))
    · intro y hy
      rcases insG_mem.1 hy with rfl | hy
      · exact hl _ (by simp)
      · exact hs y hy
    · intro y hy z hz
      rcases insG_mem.1 hy with rfl | hy
      · exact hd.1 z hz
      · exact hx y hy z (List.mem_cons_of_mem _ hz)
theorem pw_or : ∀ {l : List α}, l.Pairwise R → ∀ {u v : α}, u ∈ l → v ∈ l → u ≠ v → R u v ∨ R v u
  | [], _, _, _, h, _, _ => by cases h
  | x :: l, hp, u, v, hu, hv, hne => by
    rw [List.pairwise_cons] at hp
    rcases List.mem_cons.1 hu with e | hu
    · rcases List.mem_cons.1 hv with e' | hv
      · exact absurd (e.trans e'.symm) hne
      · rw [e]; exact .inl (hp.1 v hv)
    · rcases List.mem_cons.1 hv with e' | hv
      · rw [e']; exact .inr (hp.1 u hu)
      · exact pw_or hp.2 hu hv hne
end Srt
theorem getD_bd {s : List Int} {b : Int} (hb : 0 < b) (hs : ∀ z ∈ s, 0 ≤ z ∧ z < b) (i : Nat) : 0 ≤ s.getD i 0 ∧ s.getD i 0 < b := by
  rw [List.getD_eq_getElem?_getD]
  cases h : s[i]? with
  | none => simp; exact hb
  | some z => simpa using hs z (List.mem_of_getElem? h)
/-! ### places -/
theorem inv1 : (1 : Rat)⁻¹ = 1 := by
  have := Rat.mul_inv_cancel (1 : Rat) (by decide)
  grind
def px (p : Pt) (q : Rat) : Rat := pev p.c.x q / (p.c.d : Rat)
def py (p : Pt) (q : Rat) : Rat := pev p.c.y q / (p.c.d : Rat)
/-- by places at a rational time, and by names -/
def lexP (q : Rat) (x y : Pt) : Prop := px x q < px y q ∨ px x q = px y q ∧ (py x q < py y q ∨ py x q = py y q ∧ x.id < y.id)
theorem lexP_irr (q : Rat) (x : Pt) : ¬ lexP q x x := by unfold lexP; grind
theorem lexP_tr (q : Rat) (x y z : Pt) (h : lexP q x y) (h' : lexP q y z) : lexP q x z := by unfold lexP at *; grind
theorem lexP_tot {q : Rat} {x y : Pt} (h : x.id ≠ y.id) (h' : ¬ lexP q x y) : lexP q y x := by unfold lexP at *; grind
theorem sgn_cross {u v : Rat} {c d : Int} (hc : 0 < c) (hd : 0 < d) : sgnQ (v * (c : Rat) - u * (d : Rat)) = sgnQ (v / (d : Rat) - u / (c : Rat)) := by
  have hc' : (0 : Rat) < (c : Rat) := by exact_mod_cast hc
  have hd' : (0 : Rat) < (d : Rat) := by exact_mod_cast hd
  have e : v * (c : Rat) - u * (d : Rat) = ((c : Rat) * (d : Rat)) * (v / (d : Rat) - u / (c : Rat)) := by
    rw [Rat.div_def, Rat.div_def]
    have h1 := Rat.mul_inv_cancel (c : Rat) (by grind)
    have h2 := Rat.mul_inv_cancel (d : Rat) (by grind)
    grind
  rw [e, sgnQ_mul_pos (Rat.mul_pos hc' hd')]
theorem sgn_right {x y : Pt} (hx : Sc x.c) (hy : Sc y.c) (q : Rat) : sgnQ (pev (pright x.c y.c) q) = sgnQ (px y q - px x q) := by
  unfold pright px; rw [pev_psub, pev_pscale, pev_pscale]; exact sgn_cross hx.n.2.2.1 hy.n.2.2.1
theorem sgn_above {x y : Pt} (hx : Sc x.c) (hy : Sc y.c) (q : Rat) : sgnQ (pev (pabove x.c y.c) q) = sgnQ (py y q - py x q) := by
  unfold pabove py; rw [pev_psub, pev_pscale, pev_pscale]; exact sgn_cross hx.n.2.2.1 hy.n.2.2.1
theorem before_lex {a : Tm} (ha : Va a) {x y : Pt} (hx : Sc x.c) (hy : Sc y.c) {q : Rat} (h1 : germ (sgA a) (pright x.c y.c) = sgnQ (pev (pright x.c y.c) q)) (h2 : germ (sgA a) (pabove x.c y.c) = sgnQ (pev (pabove x.c y.c) q)) : before (sgA a) x y = true ↔ lexP q x y := by
  rw [sgn_right hx hy] at h1
  rw [sgn_above hx hy] at h2
  have d1 := (cp_right hx hy).dp
  have d2 := (cp_above hx hy).dp
  unfold before
  simp only [pfirst]
  have t1 := sgnQ_three (px y q - px x q)
  have t2 := sgnQ_three (py y q - py x q)
  by_cases e1 : (pright x.c y.c).length = 0
  · rw [if_neg (by omega)]
    rw [List.eq_nil_of_length_eq_zero e1, germ_nil] at h1
    have : px x q = px y q := by grind
    by_cases e2 : (pabove x.c y.c).length = 0
    · rw [if_neg (by omega)]
      rw [List.eq_nil_of_length_eq_zero e2, germ_nil] at h2
      unfold lexP
      simp only [decide_eq_true_eq]
      grind
    · rw [if_pos (by omega)]
      have := (germ_rs ha d2 e2).2
      unfold lexP
      simp only [decide_eq_true_eq]
      grind
  · rw [if_pos (by omega)]
    have := (germ_rs ha d1 e1).2
    unfold lexP
    simp only [decide_eq_true_eq]
    grind
/-- all polynomials that sorting asks for -/
def allP (l : List Pt) : List (List Int) := l.flatMap fun x => l.flatMap fun y => [pright x.c y.c, pabove x.c y.c]
theorem allP_mem {l : List Pt} {x y : Pt} (hx : x ∈ l) (hy : y ∈ l) : pright x.c y.c ∈ allP l ∧ pabove x.c y.c ∈ allP l :=
  ⟨List.mem_flatMap.2 ⟨x, hx, List.mem_flatMap.2 ⟨y, hy, by simp⟩⟩, List.mem_flatMap.2 ⟨x, hx, List.mem_flatMap.2 ⟨y, hy, by simp⟩⟩⟩
theorem allP_cp {l : List Pt} (hl : ∀ p ∈ l, Sc p.c) : ∀ p ∈ allP l, Cp p := fun p hp => by
  obtain ⟨x, hx, hp⟩ := List.mem_flatMap.1 hp
  obtain ⟨y, hy, hp⟩ := List.mem_flatMap.1 hp
  simp at hp
  rcases hp with rfl | rfl
  · exact cp_right (hl x hx) (hl y hy)
  · exact cp_above (hl x hx) (hl y hy)
/-- soon enough behind a time, the row is that of the places -/
theorem row_lex {l : List Pt} (hl : ∀ p ∈ l, Sc p.c) (hd : l.Pairwise fun x y => x.id ≠ y.id) {a : Tm} (ha : Va a) : ∃ y, cmpR a y = -1 ∧ ∀ q, cmpR a q = -1 → q ≤ y → (∀ u ∈ l, ∀ v ∈ l, (before (sgA a) u v = true ↔ lexP q u v)) ∧ (rowA a l).Pairwise (lexP q) := by
  obtain ⟨y, y1, y2⟩ := germs_ex ha (allP l) fun p hp => (allP_cp hl p hp).dp
  refine ⟨y, y1, fun q q1 q2 => ?_⟩
  have h := y2 q q1 q2
  have hb : ∀ u ∈ l, ∀ v ∈ l, (before (sgA a) u v = true ↔ lexP q u v) := fun u hu v hv => before_lex ha (hl u hu) (hl v hv) (h _ (allP_mem hu hv).1) (h _ (allP_mem hu hv).2)
  refine ⟨hb, ?_⟩
  exact foldG_pw (S := fun x => x ∈ l) (D := fun x y => x.id ≠ y.id) (lexP_tr q) (fun u v hu hv h => (hb u hu v hv).1 h) (fun u v hu hv hne h => lexP_tot (fun e => hne e.symm) fun h' => by
    rw [(hb u hu v hv).2 h'] at h; cases h) l [] .nil (fun x hx => by cases hx) (fun x hx => hx) hd (fun x hx => by cases hx)
theorem order_keep {a b : Tm} {x y : Pt} (h : germ (sgA b) (orderP x y) = germ (sgA a) (orderP x y)) : before (sgA b) x y = before (sgA a) x y := by
  unfold orderP either at h
  unfold before
  simp only [pfirst]
  by_cases e1 : 0 < (pright x.c y.c).length
  · rw [if_pos e1, if_pos e1]; rw [if_pos e1] at h; rw [h]
  · rw [if_neg e1, if_neg e1]; rw [if_neg e1] at h; rw [h]
theorem chain_keep {a b : Tm} {q r : Rat} : ∀ (l : List Pt), (∀ u ∈ l, ∀ v ∈ l, (before (sgA a) u v = true ↔ lexP q u v)) → (∀ u ∈ l, ∀ v ∈ l, (before (sgA b) u v = true ↔ lexP r u v)) → l.Pairwise (lexP q) → (∀ x ∈ rowCs (sgA a) l, germ (sgA b) x.p = germ (sgA a) x.p) → l.Pairwise (lexP r) ∧ rowCs (sgA b) l = rowCs (sgA a) l
  | [], _, _, _, _ => ⟨.nil, rfl⟩
  | [x], _, _, _, _ => ⟨List.pairwise_singleton _ _, rfl⟩
  | x :: y :: l, ha, hb, hp, hc => by
    rw [List.pairwise_cons] at hp
    obtain ⟨i1, i2⟩ := chain_keep (a := a) (b := b) (q := q) (r := r) (y :: l) (fun u hu v hv => ha u (List.mem_cons_of_mem _ hu) v (List.mem_cons_of_mem _ hv)) (fun u hu v hv => hb u (List.mem_cons_of_mem _ hu) v (List.mem_cons_of_mem _ hv)) hp.2 (fun z hz => hc z (by simp only [rowCs]; exact List.mem_cons_of_mem _ hz))
    have h0 : germ (sgA b) (orderP x y) = germ (sgA a) (orderP x y) := hc (mkOrder (sgA a) x y) (by simp [rowCs])
    have h1 : lexP r x y := (hb x (by simp) y (by simp)).1 (by rw [order_keep h0]; exact (ha x (by simp) y (by simp)).2 (hp.1 y (by simp)))
    refine ⟨List.pairwise_cons.2 ⟨fun z hz => ?_, i1⟩, ?_⟩
    · rcases List.mem_cons.1 hz with rfl | hz
      · exact h1
      · exact lexP_tr r x y z h1 ((List.pairwise_cons.1 i1).1 z hz)
    · simp only [rowCs]
      rw [i2]; congr 1
      unfold mkOrder; rw [h0]
theorem rowCs_pts {sg : List Int → Int} : ∀ {l : List Pt}, ∀ x ∈ rowCs sg l, ∃ u ∈ l, ∃ v ∈ l, x.p = orderP u v
  | [], x, hx => by cases hx
  | [_], x, hx => by cases hx
  | a :: b :: l, x, hx => by
    simp only [rowCs] at hx
    rcases List.mem_cons.1 hx with rfl | hx
    · exact ⟨a, by simp, b, by simp, rfl⟩
    · obtain ⟨u, hu, v, hv, e⟩ := rowCs_pts (l := b :: l) x hx
      exact ⟨u, List.mem_cons_of_mem _ hu, v, List.mem_cons_of_mem _ hv, e⟩
theorem order_all {l : List Pt} {u v : Pt} (hu : u ∈ l) (hv : v ∈ l) : orderP u v ∈ allP l := by
  unfold orderP either; split
  · exact (allP_mem hu hv).1
  · exact (allP_mem hu hv).2
theorem bcS_all {l : List Pt} {a : Tm} : ∀ x ∈ bcS l a, x.p ∈ allP l := fun x hx => by
  obtain ⟨u, hu, v, hv, e⟩ := rowCs_pts x hx
  rw [e]; exact order_all (rowA_mem.1 hu) (rowA_mem.1 hv)
theorem allP_len (l : List Pt) : (allP l).length = l.length * (l.length * 2) := by
  have h1 : ∀ (x : Pt) (m : List Pt), (m.flatMap fun y => [pright x.c y.c, pabove x.c y.c]).length = m.length * 2 := fun x m => by
    induction m with
    | nil => rfl
    | cons y m ih => rw [List.flatMap_cons, List.length_append, ih, List.length_cons]; simp; omega
  have h2 : ∀ m : List Pt, (m.flatMap fun x => l.flatMap fun y => [pright x.c y.c, pabove x.c y.c]).length = m.length * (l.length * 2) := fun m => by
    induction m with
    | nil => simp
    | cons y m ih => rw [List.flatMap_cons, List.length_append, ih, List.length_cons, h1, Nat.add_mul, Nat.one_mul, Nat.add_comm]
  exact h2 l
theorem row_keep {l : List Pt} (hl : ∀ p ∈ l, Sc p.c) (hd : l.Pairwise fun x y => x.id ≠ y.id) {a b : Tm} (ha : Va a) (hb : Va b) (h : ∀ x ∈ bcS l a, germ (sgA b) x.p = germ (sgA a) x.p) : rowA b l = rowA a l ∧ bcS l b = bcS l a := by
  obtain ⟨q, q1, q2⟩ := row_lex hl hd ha
  obtain ⟨r, r1, r2⟩ := row_lex hl hd hb
  obtain ⟨a1, a2⟩ := q2 q q1 Rat.le_refl
  obtain ⟨b1, b2⟩ := r2 r r1 Rat.le_refl
  obtain ⟨c1, c2⟩ := chain_keep (a := a) (b := b) (rowA a l) (fun u hu v hv => a1 u (rowA_mem.1 hu) v (rowA_mem.1 hv)) (fun u hu v hv => b1 u (rowA_mem.1 hu) v (rowA_mem.1 hv)) a2 h
  have e : rowA b l = rowA a l := pw_unique (lexP_irr r) (lexP_tr r) b2 c1 fun x => by rw [rowA_mem, rowA_mem]
  exact ⟨e, by unfold bcS; rw [e, c2]⟩
theorem stabS {l : List Pt} (hl : ∀ p ∈ l, Sc p.c) (hn : l.length ≤ 1000) (hd : l.Pairwise fun x y => x.id ≠ y.id) : Stab (bcS l) (brS l) := by
  refine ⟨bcS_ok hl hn, ⟨allP l, allP_cp hl, fun a _ x hx => ?_⟩, fun a b ha hb h => ?_⟩
  · obtain ⟨u, hu, v, hv, e⟩ := rowCs_pts x hx
    rw [e]; exact order_all (rowA_mem.1 hu) (rowA_mem.1 hv)
  · obtain ⟨e1, e2⟩ := row_keep hl hd ha hb h
    exact ⟨e2, by unfold brS; rw [e1]⟩
end Orq

namespace Orq
open Orr Go
theorem tq_lt {t q : Rat} : cmpR (tq t) q = 1 ↔ q < t := by
  rw [tq_pt]; rcases cmpQ_val t q with ⟨e, h⟩ | ⟨e, h⟩ | ⟨e, h⟩ <;> grind
theorem tq_gt {t q : Rat} : cmpR (tq t) q = -1 ↔ t < q := by
  rw [tq_pt]; rcases cmpQ_val t q with ⟨e, h⟩ | ⟨e, h⟩ | ⟨e, h⟩ <;> grind
theorem cut_root {c : Rat → Int} (hc : Cut c) {τ : Rat} (h : c τ = 0) (q : Rat) : c q = cmpR (tq τ) q := by
  rw [tq_pt]
  rcases cmpQ_val τ q with ⟨e, h'⟩ | ⟨e, h'⟩ | ⟨e, h'⟩
  · rw [e]
    rcases Classical.em (c q = 1) with h1 | h1
    · exact h1
    · have := hc.mono q τ h' h1; omega
  · subst h'; rw [h, e]
  · rw [e]; exact hc.mono τ q h' (by omega)
theorem tlt_eq {a b b' : Tm} (h : ∀ q, cmpR b q = cmpR b' q) : TLt a b ↔ TLt a b' := by
  unfold TLt; simp only [h]
theorem tlt_eq' {a b b' : Tm} (h : ∀ q, cmpR b q = cmpR b' q) : TLt b a ↔ TLt b' a := by
  unfold TLt; simp only [h]
theorem tlt_tq {s t : Rat} : TLt (tq s) (tq t) ↔ s < t := by
  constructor
  · rintro ⟨q, h1, h2⟩
    have := tq_gt.1 h1; have := tq_lt.1 h2; grind
  · intro h
    exact ⟨(s + t) / 2, tq_gt.2 (by grind), tq_lt.2 (by grind)⟩
/-- a linear polynomial turns at its root, and nowhere else -/
theorem lin_turn {p : List Int} {a t : Tm} (ha : Va a) {K τ : Rat} (hp : ∀ q, pev p q = K * (q - τ)) (hK : K ≠ 0) (h : NxtOk p a (some t)) : ∀ q, cmpR t q = cmpR (tq τ) q := by
  obtain ⟨_, h2, h3, s, s0, h4, h5⟩ := h
  have hs : sgnQ K ≠ 0 := fun e => hK (sgnQ_zero.1 e)
  have sg : ∀ q, τ < q → sgnQ (pev p q) = sgnQ K := fun q hq => by
    rw [hp, sgnQ_mul, sgnQ_pos.2 (by grind : 0 < q - τ)]; omega
  have sl : ∀ q, q < τ → sgnQ (pev p q) = -sgnQ K := fun q hq => by
    rw [hp, sgnQ_mul, sgnQ_neg.2 (by grind : q - τ < 0)]; omega
  have r5 : RS (cz p) (cmpR t) (-s) := h5
  obtain ⟨y, y1, y2⟩ := h5
  obtain ⟨m, m1, m2⟩ := h3
  have hc := h2.cut
  rcases hc.val τ with e | e | e
  · exfalso
    -- the root lies below: right of it there is one sign
    have e1 : sgnQ (pev p y) = -s := by rw [← ev_cz]; exact y2 y y1 Rat.le_refl
    rw [sg y (hc.lt e y1)] at e1
    -- a rational between the greater of m, τ and t
    obtain ⟨r, r1, r2⟩ := hc.up (if m ≤ τ then τ else m) (by split <;> assumption)
    have r3 : cmpR t r = 1 := r2
    have hr := h4 (cmpR (tq r)) (cut_pt (x := r) fun q => tq_pt r q) (fun q hq => ha.cut.mono m q (by have := tq_gt.1 hq; grind) (by omega)) (by
      obtain ⟨r', r4, r5⟩ := hc.up r r3
      exact ⟨r', tq_gt.2 r4, r5⟩)
    obtain ⟨z, z1, z2⟩ := hr
    have e2 : sgnQ (pev p z) = s := by rw [← ev_cz]; exact z2 z z1 Rat.le_refl
    have := tq_gt.1 z1
    rw [sg z (by grind)] at e2
    omega
  · exact cut_root hc e
  · exfalso
    -- the root lies above: left of it there is one sign
    have e1 : ∃ z, z < τ ∧ sgnQ (pev p z) = -s := by
      obtain ⟨r, r1, r2⟩ := hc.dn τ e
      refine ⟨if y ≤ r then y else r, by grind, ?_⟩
      rw [← ev_cz]
      exact y2 _ (by split <;> assumption) (by grind)
    obtain ⟨z, z1, z2⟩ := e1
    rw [sl z z1] at z2
    obtain ⟨r, r1, r2⟩ := hc.up m m2
    have hr := h4 (cmpR (tq r)) (cut_pt (x := r) fun q => tq_pt r q) (fun q hq => ha.cut.mono m q (by have := tq_gt.1 hq; grind) (by omega)) (by
      obtain ⟨r', r4, r5⟩ := hc.up r r2
      exact ⟨r', tq_gt.2 r4, r5⟩)
    obtain ⟨w, w1, w2⟩ := hr
    have hrt : r < τ := hc.lt r2 e
    have e3 : sgnQ (pev p (if w ≤ (r + τ) / 2 then w else (r + τ) / 2)) = s := by
      rw [← ev_cz]
      have := tq_gt.1 w1
      exact w2 _ (tq_gt.2 (by grind)) (by grind)
    rw [sl _ (by grind)] at e3
    omega
/-- in a row that stays, nobody overtakes -/
theorem pw_and {α : Type} {R S : α → α → Prop} : ∀ {l : List α}, l.Pairwise R → l.Pairwise S → l.Pairwise fun x y => R x y ∧ S x y
  | [], _, _ => .nil
  | x :: l, h, h' => by
    rw [List.pairwise_cons] at h h'
    exact List.pairwise_cons.2 ⟨fun y hy => ⟨h.1 y hy, h'.1 y hy⟩, pw_and h.2 h'.2⟩
/-- two points change their order at a time -/
def Cross (u v : Pt) (τ : Rat) : Prop := (∀ q, q < τ → px u q < px v q) ∧ ∀ q, τ < q → px v q < px u q
theorem no_cross {l : List Pt} (hl : ∀ p ∈ l, Sc p.c) (hn : l.length ≤ 1000) (hd : l.Pairwise fun x y => x.id ≠ y.id) {a : Tm} (ha : Va a) {τ : Rat} (hτ : Va (tq τ)) (h : TLt a (tq τ)) (hE : ∀ x ∈ bcS l a, ∃ o, NxtOk x.p a o ∧ ∀ u, o = some u → TLt (tq τ) u) {u v : Pt} (hu : u ∈ l) (hv : v ∈ l) (hc : Cross u v τ) : False := by
  have S := stabS hl hn hd
  have hab := lt_nle ha.cut hτ.cut h
  obtain ⟨er, _⟩ := row_keep hl hd ha hτ fun x hx => by
    obtain ⟨o, o1, o2⟩ := hE x hx
    exact germ_same (S.ok.p _ ha _ hx).dp ha hτ hab o1 o2
  obtain ⟨y, y1, y2⟩ := row_lex hl hd ha
  obtain ⟨z, z1, z2⟩ := row_lex hl hd hτ
  obtain ⟨m, m1, m2⟩ := h
  have hm := tq_lt.1 m2
  have p1 := (y2 (if y ≤ m then y else m) (by split <;> assumption) (by grind)).2
  have p2 := (z2 z z1 Rat.le_refl).2
  rw [er] at p2
  have hne : u ≠ v := fun e => by
    subst e
    have := hc.1 (τ - 1) (by grind); grind
  have a1 := hc.1 (if y ≤ m then y else m) (by grind)
  have a2 := hc.2 z (tq_gt.1 z1)
  rcases pw_or (pw_and p1 p2) (rowA_mem.2 hu) (rowA_mem.2 hv) hne with ⟨_, h2⟩ | ⟨h1, _⟩
  · unfold lexP at h2; grind
  · unfold lexP at h1; grind
/-! ### points that run to the left, each with its speed -/
def mpt (s : List Int) (i : Nat) : Pt := ⟨⟨trim [s.getD i 0, -(i : Int)], trim [(i : Int)], 1⟩, (i : Int)⟩
def mpts (s : List Int) (n : Nat) : List Pt := (List.range n).map (mpt s)
theorem px_mpt (s : List Int) (i : Nat) (q : Rat) : px (mpt s i) q = ((s.getD i 0 : Int) : Rat) - ((i : Nat) : Rat) * q := by
  unfold px mpt
  show pev (trim [s.getD i 0, -(i : Int)]) q / ((1 : Int) : Rat) = _
  rw [pev_trim]
  simp only [pev]
  rw [Rat.intCast_neg, show (((i : Nat) : Int) : Rat) = ((i : Nat) : Rat) from rfl, show ((1 : Int) : Rat) = 1 from rfl, Rat.div_def]
  have := inv1
  rw [this]; grind
/-- i and j meet at a time -/
def Meet (s : List Int) (n : Nat) (τ : Rat) : Prop := ∃ i j : Nat, i < j ∧ j < n ∧ τ * (((j : Nat) : Rat) - ((i : Nat) : Rat)) = ((s.getD j 0 : Int) : Rat) - ((s.getD i 0 : Int) : Rat)
theorem natlt {i j : Nat} (h : i < j) : ((i : Nat) : Rat) + 1 ≤ ((j : Nat) : Rat) := by
  have : ((i + 1 : Nat) : Rat) ≤ ((j : Nat) : Rat) := Rat.natCast_le_natCast.2 h
  simpa using this
theorem cross_of {s : List Int} {i j : Nat} {τ : Rat} (h : i < j) (e : τ * (((j : Nat) : Rat) - ((i : Nat) : Rat)) = ((s.getD j 0 : Int) : Rat) - ((s.getD i 0 : Int) : Rat)) : Cross (mpt s i) (mpt s j) τ := by
  have hij := natlt h
  have key : ∀ q, px (mpt s j) q - px (mpt s i) q = (τ - q) * (((j : Nat) : Rat) - ((i : Nat) : Rat)) := fun q => by rw [px_mpt, px_mpt]; grind
  constructor
  · intro q hq
    have := key q
    have := Rat.mul_pos (show 0 < τ - q by grind) (show 0 < ((j : Nat) : Rat) - ((i : Nat) : Rat) by grind)
    grind
  · intro q hq
    have := key q
    have := Rat.mul_pos (show 0 < q - τ by grind) (show 0 < ((j : Nat) : Rat) - ((i : Nat) : Rat) by grind)
    grind
theorem mpts_mem {s : List Int} {n i : Nat} (h : i < n) : mpt s i ∈ mpts s n := List.mem_map.2 ⟨i, List.mem_range.2 h, rfl⟩
theorem mpts_len (s : List Int) (n : Nat) : (mpts s n).length = n := by simp [mpts]
theorem mpts_pw (s : List Int) (n : Nat) : (mpts s n).Pairwise fun x y => x.id ≠ y.id := by
  unfold mpts
  rw [List.pairwise_map]
  exact List.Pairwise.imp (fun {a b} h => by show (a : Int) ≠ (b : Int); omega) (List.pairwise_lt_range (n := n))
theorem bd_small {l : List Int} (h : ∀ z ∈ l, z.natAbs < 2 ^ 60) : Bd 80 l := fun z hz => by
  have := h z hz
  exact Nat.le_trans (isz_le.2 (by omega : z.natAbs < 2 ^ 60)) (by decide)
theorem mpt_sc {s : List Int} {i : Nat} (hs : ∀ z ∈ s, 0 ≤ z ∧ z < 20) (hi : i < 5) : Sc (mpt s i).c := by
  have h0 : 0 ≤ s.getD i 0 ∧ s.getD i 0 < 20 := by
    rw [List.getD_eq_getElem?_getD]
    cases h : s[i]? with
    | none => simp
    | some z => simpa using hs z (List.mem_of_getElem? h)
  refine ⟨⟨trim_trim _, trim_trim _, by show (0 : Int) < 1; decide, ?_⟩, ?_⟩
  · have := gcdL_dvd (l := (mpt s i).c.d :: ((mpt s i).c.x ++ (mpt s i).c.y)) (mpt s i).c.d (List.mem_cons_self ..)
    have h1 : (mpt s i).c.d = 1 := rfl
    rw [h1] at this ⊢
    have := Int.ofNat_dvd_left.1 this
    simpa using this
  · refine ⟨bd_trim (bd_mono (bd_small fun z hz => ?_) (by decide)), bd_trim (bd_mono (bd_small fun z hz => ?_) (by decide)), by show isz 1 ≤ 90; decide, Nat.le_trans (trim_len _) (by simp), Nat.le_trans (trim_len _) (by simp)⟩
    · simp only [List.mem_cons, List.not_mem_nil, or_false] at hz; omega
    · simp only [List.mem_cons, List.not_mem_nil, or_false] at hz; omega
theorem meet_qs {s : List Int} (hs : ∀ z ∈ s, 0 ≤ z ∧ z < 20) {i j : Nat} (h : i < j) (hj : j < 5) {τ : Rat} (e : τ * (((j : Nat) : Rat) - ((i : Nat) : Rat)) = ((s.getD j 0 : Int) : Rat) - ((s.getD i 0 : Int) : Rat)) : Qs 900 τ := by
  have h0 : ∀ i, 0 ≤ s.getD i 0 ∧ s.getD i 0 < 20 := fun i => by
    rw [List.getD_eq_getElem?_getD]
    cases h : s[i]? with
    | none => simp
    | some z => simpa using hs z (List.mem_of_getElem? h)
  have hij := natlt h
  have e1 : (((j : Int) - (i : Int) : Int) : Rat) = ((j : Nat) : Rat) - ((i : Nat) : Rat) := by rw [Rat.intCast_sub]; rfl
  have e2 : ((s.getD j 0 - s.getD i 0 : Int) : Rat) = ((s.getD j 0 : Int) : Rat) - ((s.getD i 0 : Int) : Rat) := by rw [Rat.intCast_sub]
  have e3 : τ = Rat.divInt (s.getD j 0 - s.getD i 0) ((j : Int) - (i : Int)) := by
    rw [← div_divInt', e2, e1, ← e, Rat.div_def, Rat.mul_assoc, Rat.mul_inv_cancel _ (by grind), Rat.mul_one]
  have := h0 i; have := h0 j
  rw [e3]
  refine (Qs.divInt (s := 80) ?_ ?_ (by decide)).mono (by decide)
  · exact Nat.le_trans (isz_le.2 (show _ < 2 ^ 60 by omega)) (by decide)
  · exact Nat.le_trans (isz_le.2 (show _ < 2 ^ 60 by omega)) (by decide)
theorem mpts_sc {s : List Int} (hs : ∀ z ∈ s, 0 ≤ z ∧ z < 20) {n : Nat} (hn : n ≤ 5) : ∀ p ∈ mpts s n, Sc p.c := fun p hp => by
  obtain ⟨i, hi, rfl⟩ := List.mem_map.1 hp
  have := List.mem_range.1 hi
  exact mpt_sc hs (by omega)
/-- an event is a meeting -/
theorem event_meet {s : List Int} (hs : ∀ z ∈ s, 0 ≤ z ∧ z < 20) {n : Nat} (hn : n ≤ 5) {a e : Tm} (ha : Va a) {x : Ct} (hx : x ∈ bcS (mpts s n) a) (h : NxtOk x.p a (some e)) : ∃ τ, Meet s n τ ∧ ∀ q, cmpR e q = cmpR (tq τ) q := by
  have hsc := mpts_sc hs hn
  have hd := mpts_pw s n
  obtain ⟨q, q1, q2⟩ := row_lex hsc hd ha
  have hp := (q2 q q1 Rat.le_refl).2
  -- of two unlike points
  have key : ∀ (l : List Pt), l.Pairwise (lexP q) → ∀ x ∈ rowCs (sgA a) l, ∃ u ∈ l, ∃ v ∈ l, u ≠ v ∧ x.p = orderP u v := by
    intro l
    induction l with
    | nil => intro _ x hx; cases hx
    | cons b l ih =>
      intro hl x hx
      cases l with
      | nil => cases hx
      | cons c l =>
        rw [List.pairwise_cons] at hl
        simp only [rowCs] at hx
        rcases List.mem_cons.1 hx with rfl | hx
        · exact ⟨b, by simp, c, by simp, fun e => lexP_irr q b (by have := hl.1 c (by simp); rw [← e] at this; exact this), rfl⟩
        · obtain ⟨u, hu, v, hv, r⟩ := ih hl.2 x hx
          exact ⟨u, List.mem_cons_of_mem _ hu, v, List.mem_cons_of_mem _ hv, r⟩
  obtain ⟨u, hu, v, hv, hne, e1⟩ := key _ hp x hx
  obtain ⟨i, hi, rfl⟩ := List.mem_map.1 (rowA_mem.1 hu)
  obtain ⟨j, hj, rfl⟩ := List.mem_map.1 (rowA_mem.1 hv)
  have hi := List.mem_range.1 hi
  have hj := List.mem_range.1 hj
  have hij : i ≠ j := fun e => hne (by rw [e])
  -- the polynomial
  have hpr : ∀ q, pev (pright (mpt s i).c (mpt s j).c) q = px (mpt s j) q - px (mpt s i) q := fun q => by
    unfold pright px
    rw [pev_psub, pev_pscale, pev_pscale]
    show pev (mpt s j).c.x q * ((1 : Int) : Rat) - pev (mpt s i).c.x q * ((1 : Int) : Rat) = pev (mpt s j).c.x q / ((1 : Int) : Rat) - pev (mpt s i).c.x q / ((1 : Int) : Rat)
    rw [show ((1 : Int) : Rat) = 1 from rfl, Rat.div_def, Rat.div_def, inv1]
  have hne' : ((i : Nat) : Rat) - ((j : Nat) : Rat) ≠ 0 := by
    rcases Nat.lt_or_ge i j with h | h
    · have := natlt h; grind
    · have := natlt (show j < i by omega); grind
  have hnil : pright (mpt s i).c (mpt s j).c ≠ [] := fun h0 => by
    have a0 := hpr 0
    have a1 := hpr 1
    rw [h0, px_mpt, px_mpt] at a0 a1
    simp only [pev] at a0 a1
    grind
  have e2 : x.p = pright (mpt s i).c (mpt s j).c := by
    rw [e1]; unfold orderP either
    rw [if_pos (List.length_pos_iff.2 hnil)]
  rw [e2] at h
  obtain ⟨τ, hτ⟩ : ∃ τ : Rat, τ = (((s.getD i 0 : Int) : Rat) - ((s.getD j 0 : Int) : Rat)) / (((i : Nat) : Rat) - ((j : Nat) : Rat)) := ⟨_, rfl⟩
  have hτ' : τ * (((i : Nat) : Rat) - ((j : Nat) : Rat)) = ((s.getD i 0 : Int) : Rat) - ((s.getD j 0 : Int) : Rat) := by
    rw [hτ]; exact Rat.div_mul_cancel hne'
  refine ⟨τ, ?_, lin_turn ha (K := ((i : Nat) : Rat) - ((j : Nat) : Rat)) (τ := τ) (fun q => by rw [hpr, px_mpt, px_mpt]; grind) hne' h⟩
  rcases Nat.lt_or_ge i j with h | h
  · exact ⟨i, j, h, hj, by grind⟩
  · exact ⟨j, i, by omega, hi, hτ'⟩
/-- so many events as meetings -/
theorem evs_meet {s : List Int} (hs : ∀ z ∈ s, 0 ≤ z ∧ z < 20) {n : Nat} (hn : n ≤ 5) {t : Rat} {a : Tm} {E : List Tm} (hE : Evs (bcS (mpts s n)) t a E) : Va a → ∀ T : List Rat, T.Nodup → (∀ τ, τ ∈ T ↔ Meet s n τ ∧ TLt a (tq τ) ∧ τ ≤ t) → T.length = E.length := by
  have hsc := mpts_sc hs hn
  have hd := mpts_pw s n
  have hlen : (mpts s n).length ≤ 1000 := by rw [mpts_len]; omega
  have hva : ∀ τ, Meet s n τ → Va (tq τ) := fun τ ⟨i, j, h, hj, e⟩ => va_q (meet_qs hs h (by omega) e)
  induction hE with
  | nil h =>
    intro ha T _ hT
    cases T with
    | nil => rfl
    | cons τ T =>
      exfalso
      obtain ⟨hm, h1, h2⟩ := (hT τ).1 (by simp)
      have hv := hva τ hm
      obtain ⟨i, j, hij, hj, e⟩ := hm
      exact no_cross hsc hlen hd ha hv h1 (fun x hx => by
        obtain ⟨o, o1, o2⟩ := h x hx
        refine ⟨o, o1, fun u hu => ?_⟩
        obtain ⟨q, q1, q2⟩ := o2 u hu
        exact ⟨q, tq_gt.2 (by have := tq_gt.1 q1; grind), q2⟩) (mpts_mem (by omega : i < n)) (mpts_mem hj) (cross_of hij e)
  | @cons a e E he h1 h2 h3 h4 h5 ih =>
    intro ha T hnd hT
    obtain ⟨x, hx, hxe⟩ := h4
    obtain ⟨τ, hm, heq⟩ := event_meet hs hn ha hx hxe
    have hτ : τ ∈ T := (hT τ).2 ⟨hm, (tlt_eq heq).1 h1, by
      have : ¬ TLt (tq t) (tq τ) := fun h => h2 ((tlt_eq heq).2 h)
      rw [tlt_tq] at this; grind⟩
    have ih := ih he (T.erase τ) (hnd.erase τ) fun σ => by
      rw [hnd.mem_erase_iff, hT σ]
      have hlt : TLt e (tq σ) ↔ τ < σ := by rw [tlt_eq' heq]; exact tlt_tq
      constructor
      · rintro ⟨b1, b2, b3, b4⟩
        refine ⟨b2, hlt.2 ?_, b4⟩
        rcases (show τ < σ ∨ σ < τ by grind) with h | h
        · exact h
        · exfalso
          have hv := hva σ b2
          obtain ⟨i, j, hij, hj, e'⟩ := b2
          exact no_cross hsc hlen hd ha hv b3 (fun x hx => by
            obtain ⟨o, o1, o2⟩ := h3 x hx
            refine ⟨o, o1, fun u hu => ?_⟩
            have hu' := o2 u hu
            have hvu : Cut (cmpR u) := by
              subst hu
              exact o1.2.1.cut
            have hse : TLt (tq σ) e := (tlt_eq heq).2 (tlt_tq.2 h)
            exact le_lt_r hv.cut he.cut hvu hse hu') (mpts_mem (by omega : i < n)) (mpts_mem hj) (cross_of hij e')
      · rintro ⟨b1, b2, b3⟩
        refine ⟨fun h => ?_, b1, lt_tr he.cut (hva σ b1).cut h1 b2, b3⟩
        have := hlt.1 b2; grind
    have := List.length_erase_of_mem hτ
    have h0 : 0 < T.length := List.length_pos_of_mem hτ
    simp only [List.length_cons]
    omega
/-- the row, by places -/
theorem row_place {s : List Int} (hs : ∀ z ∈ s, 0 ≤ z ∧ z < 20) {n : Nat} (hn : n ≤ 5) {t : Int} (ht : Qs 900 (t : Rat)) : (rowA (tq (t : Rat)) (mpts s n)).Pairwise fun x y => ∃ i j : Nat, i < n ∧ j < n ∧ x = mpt s i ∧ y = mpt s j ∧ (s.getD i 0 - i * t < s.getD j 0 - j * t ∨ s.getD i 0 - i * t = s.getD j 0 - j * t ∧ j < i) := by
  have hsc := mpts_sc hs hn
  have hd := mpts_pw s n
  obtain ⟨y, y1, y2⟩ := row_lex hsc hd (va_q ht)
  have y1 := tq_gt.1 y1
  obtain ⟨q, hq⟩ : ∃ q : Rat, q = if y ≤ (t : Rat) + 1 / 8 then y else (t : Rat) + 1 / 8 := ⟨_, rfl⟩
  have q1 : (t : Rat) < q := by grind
  have q2 : q ≤ y := by grind
  have q3 : q ≤ (t : Rat) + 1 / 8 := by grind
  have hp := (y2 q (tq_gt.2 q1) q2).2
  refine hp.imp_of_mem fun {u v} hu hv h => ?_
  obtain ⟨i, hi, rfl⟩ := List.mem_map.1 (rowA_mem.1 hu)
  obtain ⟨j, hj, rfl⟩ := List.mem_map.1 (rowA_mem.1 hv)
  have hi := List.mem_range.1 hi
  have hj := List.mem_range.1 hj
  refine ⟨i, j, hi, hj, rfl, rfl, ?_⟩
  have hle : px (mpt s i) q ≤ px (mpt s j) q := by unfold lexP at h; grind
  have hid : px (mpt s i) q = px (mpt s j) q → i = j ∨ True := fun _ => .inr trivial
  rw [px_mpt, px_mpt] at hle
  obtain ⟨A, hA⟩ : ∃ A : Int, A = s.getD i 0 - i * t := ⟨_, rfl⟩
  obtain ⟨B, hB⟩ : ∃ B : Int, B = s.getD j 0 - j * t := ⟨_, rfl⟩
  have cA : (A : Rat) = ((s.getD i 0 : Int) : Rat) - ((i : Nat) : Rat) * (t : Rat) := by rw [hA, Rat.intCast_sub, Rat.intCast_mul]; rfl
  have cB : (B : Rat) = ((s.getD j 0 : Int) : Rat) - ((j : Nat) : Rat) * (t : Rat) := by rw [hB, Rat.intCast_sub, Rat.intCast_mul]; rfl
  rw [← hA, ← hB]
  obtain ⟨d, hd⟩ : ∃ d : Rat, d = q - t := ⟨_, rfl⟩
  have d0 : 0 < d := by grind
  have d1 : d ≤ 1 / 8 := by grind
  have hle' : (A : Rat) - ((i : Nat) : Rat) * d ≤ (B : Rat) - ((j : Nat) : Rat) * d := by rw [cA, cB, hd]; grind
  have i0 : (0 : Rat) ≤ ((i : Nat) : Rat) := by exact_mod_cast Nat.zero_le i
  have j0 : (0 : Rat) ≤ ((j : Nat) : Rat) := by exact_mod_cast Nat.zero_le j
  have i4 : ((i : Nat) : Rat) ≤ 4 := by
    have : ((i : Nat) : Rat) ≤ ((4 : Nat) : Rat) := Rat.natCast_le_natCast.2 (by omega)
    exact this
  rcases Int.lt_trichotomy A B with h1 | h1 | h1
  · exact .inl h1
  · right
    refine ⟨h1, ?_⟩
    subst h1
    rcases Nat.lt_or_ge j i with h2 | h2
    · exact h2
    · exfalso
      rcases Nat.eq_or_lt_of_le h2 with h3 | h3
      · subst h3; exact lexP_irr _ _ h
      · have := natlt h3
        have := Rat.mul_pos d0 (show (0 : Rat) < ((j : Nat) : Rat) - ((i : Nat) : Rat) by grind)
        grind
  · exfalso
    have h2 : (B : Rat) + 1 ≤ (A : Rat) := by
      have : ((B + 1 : Int) : Rat) ≤ (A : Rat) := Rat.intCast_le_intCast.2 (by omega)
      rw [Rat.intCast_add] at this; exact this
    have h3 : 0 ≤ ((j : Nat) : Rat) * d := Rat.mul_nonneg j0 (by grind)
    have h4 : ((i : Nat) : Rat) * d ≤ 4 * (1 / 8) := by
      have := Rat.mul_nonneg (show (0 : Rat) ≤ 4 - ((i : Nat) : Rat) by grind) (show 0 ≤ d by grind)
      grind
    grind
/-- the times that the law gathers -/
theorem times_len {s : List Int} (hs : ∀ z ∈ s, 0 ≤ z ∧ z < 20) {n : Nat} (hn : n ≤ 5) {t : Int} {T : List (Int × Int)} (h1 : T.Pairwise fun x y => x.1 * y.2 ≠ y.1 * x.2)
    (h2 : ∀ x ∈ T, 0 < x.1 ∧ 0 < x.2 ∧ x.1 ≤ x.2 * t ∧ ∃ i j : Nat, i < j ∧ j < n ∧ x = (s.getD j 0 - s.getD i 0, (j : Int) - (i : Int)))
    (h3 : ∀ i j : Nat, i < j → j < n → 0 < s.getD j 0 - s.getD i 0 → s.getD j 0 - s.getD i 0 ≤ ((j : Int) - (i : Int)) * t → ∃ x ∈ T, x.1 * ((j : Int) - (i : Int)) = (s.getD j 0 - s.getD i 0) * x.2)
    {E : List Tm} (hE : Evs (bcS (mpts s n)) (t : Rat) (tq 0) E) (h0 : Va (tq 0)) : T.length = E.length := by
  have pos : ∀ {z : Int}, 0 < z → (0 : Rat) < (z : Rat) := fun {z} h => by exact_mod_cast h
  have key : ∀ {a b c d : Int}, 0 < b → 0 < d → ((a : Rat) / (b : Rat) = (c : Rat) / (d : Rat) ↔ a * d = c * b) := fun {a b c d} hb hd => by
    have hb' := pos hb
    have hd' := pos hd
    have e1 : (a : Rat) / (b : Rat) * (b : Rat) = a := Rat.div_mul_cancel (by grind)
    have e2 : (c : Rat) / (d : Rat) * (d : Rat) = c := Rat.div_mul_cancel (by grind)
    constructor
    · intro h
      have : ((a * d : Int) : Rat) = ((c * b : Int) : Rat) := by
        rw [Rat.intCast_mul, Rat.intCast_mul]; grind
      exact Rat.intCast_inj.1 this
    · intro h
      have : ((a * d : Int) : Rat) = ((c * b : Int) : Rat) := by rw [h]
      rw [Rat.intCast_mul, Rat.intCast_mul] at this
      obtain ⟨u, hu⟩ : ∃ u, u = (a : Rat) / (b : Rat) := ⟨_, rfl⟩
      obtain ⟨v, hv⟩ : ∃ v, v = (c : Rat) / (d : Rat) := ⟨_, rfl⟩
      rw [← hu, ← hv]; rw [← hu] at e1; rw [← hv] at e2
      rw [← e1, ← e2] at this
      have h4 : (u - v) * ((b : Rat) * (d : Rat)) = 0 := by grind
      rcases Rat.mul_eq_zero.1 h4 with h | h
      · grind
      · exact absurd h (by have := Rat.mul_pos hb' hd'; grind)
  have := evs_meet hs hn hE h0 (T.map fun x => (x.1 : Rat) / (x.2 : Rat)) ?_ fun τ => ?_
  · rw [List.length_map] at this; exact this
  · unfold List.Nodup
    rw [List.pairwise_map]
    refine h1.imp_of_mem fun {x y} hx hy h e => h ?_
    exact (key (h2 x hx).2.1 (h2 y hy).2.1).1 e
  · rw [List.mem_map]
    constructor
    · rintro ⟨x, hx, rfl⟩
      obtain ⟨a1, a2, a3, i, j, hij, hj, rfl⟩ := h2 x hx
      dsimp only at *
      have p2 := pos a2
      have p1 := pos a1
      have e1 := Rat.div_mul_cancel (a := ((s.getD j 0 - s.getD i 0 : Int) : Rat)) (b := (((j : Int) - (i : Int) : Int) : Rat)) (by grind)
      have e2 : (((j : Int) - (i : Int) : Int) : Rat) = ((j : Nat) : Rat) - ((i : Nat) : Rat) := by rw [Rat.intCast_sub]; rfl
      obtain ⟨τ, hτ⟩ : ∃ τ, τ = ((s.getD j 0 - s.getD i 0 : Int) : Rat) / (((j : Int) - (i : Int) : Int) : Rat) := ⟨_, rfl⟩
      rw [← hτ] at e1 ⊢
      refine ⟨⟨i, j, hij, hj, by rw [e2, Rat.intCast_sub] at e1; exact e1⟩, tlt_tq.2 ?_, ?_⟩
      · rcases (show τ ≤ 0 ∨ 0 < τ by grind) with h | h
        · have := Rat.mul_nonneg (show 0 ≤ -τ by grind) (show 0 ≤ (((j : Int) - (i : Int) : Int) : Rat) by grind)
          grind
        · exact h
      · have : ((s.getD j 0 - s.getD i 0 : Int) : Rat) ≤ ((((j : Int) - (i : Int)) * t : Int) : Rat) := Rat.intCast_le_intCast.2 a3
        rw [Rat.intCast_mul, ← e1] at this
        rcases (show τ ≤ t ∨ (t : Rat) < τ by grind) with h | h
        · exact h
        · have := Rat.mul_pos (show 0 < τ - t by grind) p2
          grind
    · rintro ⟨⟨i, j, hij, hj, e⟩, hp, hle⟩
      have hp := tlt_tq.1 hp
      have e2 : (((j : Int) - (i : Int) : Int) : Rat) = ((j : Nat) : Rat) - ((i : Nat) : Rat) := by rw [Rat.intCast_sub]; rfl
      have e3 : ((s.getD j 0 - s.getD i 0 : Int) : Rat) = ((s.getD j 0 : Int) : Rat) - ((s.getD i 0 : Int) : Rat) := Rat.intCast_sub ..
      have hb : 0 < (j : Int) - (i : Int) := by omega
      rw [← e2, ← e3] at e
      have pb := pos hb
      have ha : 0 < s.getD j 0 - s.getD i 0 := by
        have : (0 : Rat) < ((s.getD j 0 - s.getD i 0 : Int) : Rat) := by rw [← e]; exact Rat.mul_pos hp pb
        exact_mod_cast this
      have hat : s.getD j 0 - s.getD i 0 ≤ ((j : Int) - (i : Int)) * t := by
        have : ((s.getD j 0 - s.getD i 0 : Int) : Rat) ≤ ((((j : Int) - (i : Int)) * t : Int) : Rat) := by
          rw [← e, Rat.intCast_mul]
          have := Rat.mul_nonneg (show 0 ≤ (t : Rat) - τ by grind) (show 0 ≤ (((j : Int) - (i : Int) : Int) : Rat) by grind)
          grind
        exact Rat.intCast_le_intCast.1 this
      obtain ⟨x, hx, hx2⟩ := h3 i j hij hj ha hat
      refine ⟨x, hx, ?_⟩
      rw [(key (h2 x hx).2.1 hb).2 hx2, ← e, Rat.div_def, Rat.mul_assoc, Rat.mul_inv_cancel _ (by grind), Rat.mul_one]
end Orq
namespace Orr
open Orq
theorem put_last : ∀ {l : List Pt} {q : Pt}, (∀ p ∈ l, p.id < q.id) → put l q = l ++ [q]
  | [], _, _ => rfl
  | p :: l, q, h => by rw [put_cons, if_pos (h p (by simp)), put_last fun x hx => h x (List.mem_cons_of_mem _ hx)]; rfl
theorem newL_asc : ∀ (qs acc : List Pt), SortedP (acc ++ qs) → (acc ++ qs).length ≤ 6 → newL acc qs = (acc ++ qs, 0)
  | [], acc, _, _ => by rw [List.append_nil]; rfl
  | q :: qs, acc, hs, hl => by
    obtain ⟨h1, h2, h3⟩ := List.pairwise_append.1 hs
    have ha : ∀ p ∈ acc, p.id < q.id := fun p hp => h3 p hp q (by simp)
    have he : putE acc q = 0 := by
      rw [putE_few (by simp at hl; omega)]
      have : has acc q.id = false := by
        cases h : has acc q.id
        · rfl
        · obtain ⟨p, hp, e⟩ := (has_iff h1).1 h
          have := ha p hp; omega
      rw [this]; rfl
    simp only [newL]
    rw [if_pos he, put_last ha, newL_asc qs (acc ++ [q]) (by rw [List.append_assoc]; exact hs) (by rw [List.append_assoc]; exact hl), List.append_assoc]
    rfl
theorem mpts_new (s : List Int) {n : Nat} (h : n ≤ 6) : newL [] (mpts s n) = (mpts s n, 0) := by
  refine newL_asc (mpts s n) [] ?_ (by rw [List.nil_append, mpts_len]; exact h)
  rw [List.nil_append]
  unfold SortedP mpts
  rw [List.pairwise_map]
  exact List.Pairwise.imp (fun {a b} h => by show (a : Int) < (b : Int); omega) (List.pairwise_lt_range (n := n))
end Orr

namespace Orq
open Orr Go
/-- nothing happens from a on, up to b -/
structure Quiet {β : Type} (Bc : Tm → List Ct) (Br : Tm → β) (a b : Tm) : Prop where
  va : Va a
  vb : Va b
  le : ¬ TLt b a
  n : ∀ x ∈ Bc a, ∃ o, NxtOk x.p a o ∧ ∀ u, o = some u → TLt b u
section
variable {β : Type} {Bc : Tm → List Ct} {Br : Tm → β} (S : Stab Bc Br)
include S
theorem Quiet.same {a b : Tm} (h : Quiet Bc Br a b) : Bc b = Bc a ∧ Br b = Br a := by
  refine S.st a b h.va h.vb fun x hx => ?_
  obtain ⟨o, o1, o2⟩ := h.n x hx
  exact germ_same (S.ok.p _ h.va _ hx).dp h.va h.vb h.le o1 o2
end
theorem tms_len {p : List Int} (h : Cp p) : (tms p).length ≤ 67 := by
  obtain ⟨l, l1, l2, _⟩ := turns_ok h
  unfold tms; rw [l1]; exact l2
theorem tms_all : ∀ {Ps : List (List Int)}, (∀ p ∈ Ps, Cp p) → (Ps.flatMap tms).length ≤ 67 * Ps.length
  | [], _ => Nat.zero_le _
  | p :: Ps, h => by
    have h1 := tms_len (h p (by simp))
    have h2 := tms_all (Ps := Ps) fun q hq => h q (List.mem_cons_of_mem _ hq)
    rw [List.flatMap_cons, List.length_append, List.length_cons]; omega
theorem mu_le (T : List Tm) (a : Tm) : mu T a ≤ T.length := List.length_filter_le _ _
/-- an advance, from any state that is right -/
theorem adv_ok {β : Type} {Bc : Tm → List Ct} {Br : Tm → β} (S : Stab Bc Br) {Ps : List (List Int)} (hP : ∀ p ∈ Ps, Cp p) (hPs : ∀ a, Va a → ∀ x ∈ Bc a, x.p ∈ Ps) (hl : Ps.length ≤ 1000000) {t : Rat} (ht : Qs 900 t) {c : Cr} {r : β} (hS : KSt Bc Br c r) (h : cmpR c.now t ≤ 0) :
    ∃ (K : Nat) (c' : Cr) (E : List Tm), K ≤ 67000001 ∧ goF Bc Br t K c r 0 = some (c', Br (tq t), ((E.length : Nat) : Int)) ∧ c'.now = tq t ∧ KSt Bc Br c' (Br (tq t)) ∧ c'.ev = c.ev + ((E.length : Nat) : Int) ∧ E.length ≤ 67000000 ∧ Evs Bc t c.now E := by
  have hm := tms_all hP
  have hmu := mu_le (Ps.flatMap tms) c.now
  have hv := hS.inv.ok.n
  obtain ⟨c', r', E, g1, g2, g3, g4, g5, g6⟩ := go_ok S ht hP hPs (mu (Ps.flatMap tms) c.now) c r 0 (Nat.le_refl _) hS fun h' => by
    have := (cmp_tq hv.cut).2 h'; omega
  have hr : r' = Br (tq t) := by rw [g3.r, g2]
  rw [hr] at g1 g3
  rw [Int.zero_add] at g1
  exact ⟨_, c', E, by omega, g1, g2, g3, g4, by omega, g6⟩
theorem beg_st {β : Type} {Bc : Tm → List Ct} {Br : Tm → β} (S : Stab Bc Br) {a : Tm} (ha : Va a) : KSt Bc Br ⟨a, (sortC (Bc a)).map fresh, 0⟩ (Br a) := by
  refine ⟨⟨⟨ha, fun w hw => ?_, ?_⟩, fun w hw hk => ?_⟩, ?_, rfl⟩
  · obtain ⟨x, hx, rfl⟩ := List.mem_map.1 hw
    exact ⟨S.ok.p _ ha x (sortC_mem hx), fun t ht => by cases ht⟩
  · show ((sortC (Bc a)).map fresh).length ≤ 1000
    rw [List.length_map, sortC_len]; exact S.ok.n _ ha
  · obtain ⟨x, hx, rfl⟩ := List.mem_map.1 hw
    cases hk
  · show ((sortC (Bc a)).map fresh).map (·.c) = sortC (Bc a)
    rw [List.map_map]
    show (sortC (Bc a)).map (fun x => x) = _
    rw [List.map_id']
end Orq

namespace Orr
open Go Go.Proofs Orq
set_option maxRecDepth 10000
def wt20 (zs : List Int) : List Int := zs.map fun z => wthn z 20
theorem wt20_get {zs : List Int} {i : Nat} (h : i < zs.length) : (wt20 zs).getD i 0 = wthn zs[i] 20 := by
  unfold wt20; rw [List.getD_eq_getElem?_getD, List.getElem?_map, List.getElem?_eq_getElem h]; rfl
theorem wt20_bd (zs : List Int) : ∀ z ∈ wt20 zs, 0 ≤ z ∧ z < 20 := fun z hz => by
  obtain ⟨x, _, rfl⟩ := List.mem_map.1 hz
  show 0 ≤ x % 20 ∧ x % 20 < 20
  omega
theorem c_place {zs : List Int} {T : Int} {i : Nat} (hz : ∀ z ∈ zs, -9223372036854775808 ≤ z ∧ z ≤ 9223372036854775807) (hT : 0 ≤ T ∧ T < 30) (hi : i < zs.length) (hi5 : i < 5) :
    DoesD Tryz.prog 43 [.one (.int .i64 (i : Int)), .one (.ow 0 0), .one (.ow 1 0)] [.blk 22 [.row (idl zs)], .blk 3 [.int .i64 T]] [.one (.int .i64 ((wt20 zs).getD i 0 - (i : Int) * T))] [.blk 22 [.row (idl zs)], .blk 3 [.int .i64 T]] := by
  have c20 := c_Within (v := zs[i]) (n := 20) (hz _ (List.getElem_mem hi)) (by decide)
  have hx : zs[i]? = some zs[i] := List.getElem?_eq_getElem hi
  have hb := wt20_get hi
  have hw : 0 ≤ wthn zs[i] 20 ∧ wthn zs[i] 20 < 20 := by show 0 ≤ zs[i] % 20 ∧ zs[i] % 20 < 20; omega
  have hm : (i : Int) * T ≤ 4 * 30 := Int.le_trans (Int.mul_le_mul_of_nonneg_right (by omega) hT.1) (Int.mul_le_mul_of_nonneg_left (by omega) (by decide))
  have hm0 : 0 ≤ (i : Int) * T := Int.mul_nonneg (by omega) hT.1
  rw [hb]
  refine fnD Tryz.func43 rfl ?_
  exact ed tt [] [0, 1] [.x (idl_get hx), .c [] c20] rfl (by simp [AllP, IntKind.bits]; omega)
theorem mpt_crv (s : List Int) (i : Nat) : Crv.norm (Crv.mk (trim [s.getD i 0, -(i : Int)]) (trim [(i : Int)]) 0) = (mpt s i).c := by
  have h := Crv.norm_of (k := (mpt s i).c) ⟨trim_trim _, trim_trim _, by show (0 : Int) < 1; decide, by
    have := gcdL_dvd (l := (mpt s i).c.d :: ((mpt s i).c.x ++ (mpt s i).c.y)) (mpt s i).c.d (List.mem_cons_self ..)
    have h1 : (mpt s i).c.d = 1 := rfl
    rw [h1] at this ⊢
    have := Int.ofNat_dvd_left.1 this
    simpa using this⟩
  exact h
theorem mpts_snoc (s : List Int) (i : Nat) : ptrow (mpts s (i + 1)) = ptrow (mpts s i) ++ [ofPt (mpt s i)] := by
  unfold mpts ptrow; rw [List.range_succ, List.map_append, List.map_append]; rfl
def prow (T : List (Int × Int)) : List (List LV) := T.map fun x => [.int .i64 x.1, .int .i64 x.2]
theorem prow_len (T : List (Int × Int)) : (prow T).length = T.length := by simp [prow]
theorem prow_get {T : List (Int × Int)} {i : Nat} {x : Int × Int} (h : T[i]? = some x) : (prow T)[i]? = some [.int .i64 x.1, .int .i64 x.2] := map_get h
/-- what the law has gathered -/
structure Gat (s : List Int) (n : Nat) (T : Int) (l : List (Int × Int)) (P : Nat → Nat → Prop) : Prop where
  pw : l.Pairwise fun x y => x.1 * y.2 ≠ y.1 * x.2
  mem : ∀ x ∈ l, 0 < x.1 ∧ 0 < x.2 ∧ x.1 ≤ x.2 * T ∧ ∃ i j : Nat, i < j ∧ j < n ∧ x = (s.getD j 0 - s.getD i 0, (j : Int) - (i : Int))
  all : ∀ i j : Nat, P i j → i < j → j < n → 0 < s.getD j 0 - s.getD i 0 → s.getD j 0 - s.getD i 0 ≤ ((j : Int) - (i : Int)) * T → ∃ x ∈ l, x.1 * ((j : Int) - (i : Int)) = (s.getD j 0 - s.getD i 0) * x.2
theorem Gat.imp {s : List Int} {n : Nat} {T : Int} {l : List (Int × Int)} {P Q : Nat → Nat → Prop} (h : Gat s n T l P) (hq : ∀ i j, Q i j → i < j → j < n → P i j ∨ ¬ (0 < s.getD j 0 - s.getD i 0 ∧ s.getD j 0 - s.getD i 0 ≤ ((j : Int) - (i : Int)) * T)) : Gat s n T l Q :=
  ⟨h.pw, h.mem, fun i j hp h1 h2 h3 h4 => by
    rcases hq i j hp h1 h2 with h5 | h5
    · exact h.all i j h5 h1 h2 h3 h4
    · exact absurd ⟨h3, h4⟩ h5⟩
theorem Gat.old {s : List Int} {n : Nat} {T : Int} {l : List (Int × Int)} {P Q : Nat → Nat → Prop} (h : Gat s n T l P) {a b : Nat} {x : Int × Int} (hx : x ∈ l) (he : x.1 * ((b : Int) - (a : Int)) = (s.getD b 0 - s.getD a 0) * x.2) (hq : ∀ i j, Q i j → P i j ∨ i = a ∧ j = b) : Gat s n T l Q :=
  ⟨h.pw, h.mem, fun i j hp h1 h2 h3 h4 => by
    rcases hq i j hp with h5 | ⟨rfl, rfl⟩
    · exact h.all i j h5 h1 h2 h3 h4
    · exact ⟨x, hx, he⟩⟩
theorem Gat.new {s : List Int} {n : Nat} {T : Int} {l : List (Int × Int)} {P Q : Nat → Nat → Prop} (h : Gat s n T l P) {a b : Nat} (hab : a < b) (hb : b < n) (h0 : 0 < s.getD b 0 - s.getD a 0) (ht : s.getD b 0 - s.getD a 0 ≤ ((b : Int) - (a : Int)) * T) (hn : ∀ x ∈ l, x.1 * ((b : Int) - (a : Int)) ≠ (s.getD b 0 - s.getD a 0) * x.2) (hq : ∀ i j, Q i j → P i j ∨ i = a ∧ j = b) : Gat s n T (l ++ [(s.getD b 0 - s.getD a 0, (b : Int) - (a : Int))]) Q := by
  refine ⟨List.pairwise_append.2 ⟨h.pw, List.pairwise_singleton _ _, fun x hx y hy => ?_⟩, fun x hx => ?_, fun i j hp h1 h2 h3 h4 => ?_⟩
  · rw [List.mem_singleton.1 hy]; exact hn x hx
  · rcases List.mem_append.1 hx with hx | hx
    · exact h.mem x hx
    · rw [List.mem_singleton.1 hx]
      exact ⟨h0, by show 0 < (b : Int) - (a : Int); omega, ht, a, b, hab, hb, rfl⟩
  · rcases hq i j hp with h5 | ⟨rfl, rfl⟩
    · obtain ⟨x, hx, hx2⟩ := h.all i j h5 h1 h2 h3 h4
      exact ⟨x, List.mem_append_left _ hx, hx2⟩
    · exact ⟨_, List.mem_append_right _ (List.mem_singleton.2 rfl), rfl⟩
set_option maxHeartbeats 4000000 in
theorem d_law18_Meets {zs : List Int} {t : Int} (hz : ∀ z ∈ zs, -9223372036854775808 ≤ z ∧ z ≤ 9223372036854775807) (ht : -9223372036854775808 ≤ t ∧ t ≤ 9223372036854775807) : Does Tryz.prog 7 [.one (.row (idl zs)), .one (.int .i64 t)] [.one (.bool true)] := by
  obtain ⟨T, hT⟩ : ∃ T, T = wthn t 30 := ⟨_, rfl⟩
  have hT0 : 0 ≤ T ∧ T < 30 := by rw [hT]; show 0 ≤ t % 30 ∧ t % 30 < 30; omega
  obtain ⟨N, hN⟩ : ∃ N, N = min zs.length 5 := ⟨_, rfl⟩
  have hN5 : N ≤ 5 := by omega
  have hNl : N ≤ zs.length := by omega
  obtain ⟨s, hs⟩ : ∃ s, s = wt20 zs := ⟨_, rfl⟩
  have hsb : ∀ z ∈ s, 0 ≤ z ∧ z < 20 := by rw [hs]; exact wt20_bd zs
  have hsg := getD_bd (b := 20) (by decide) hsb
  have hil : (idl zs).length = zs.length := by simp
  have cw := c_Within (v := t) (n := 30) ht (by decide)
  rw [← hT] at cw
  have hel : ∀ i, i < N → ∃ z, zs[i]? = some z ∧ wthn z 20 = s.getD i 0 ∧ -9223372036854775808 ≤ z ∧ z ≤ 9223372036854775807 := fun i h => by
    have h' : i < zs.length := by omega
    exact ⟨zs[i], List.getElem?_eq_getElem h', by rw [hs, wt20_get h'], hz _ (List.getElem_mem h')⟩
  have cel : ∀ i, i < N → ∃ z, zs[i]? = some z ∧ Does Tryz.prog 15 [.one (.int .i64 z), .one (.int .i64 20)] [.one (.int .i64 (s.getD i 0))] := fun i h => by
    obtain ⟨z, h1, h2, h3⟩ := hel i h
    have := c_Within (v := z) (n := 20) h3 (by decide)
    rw [h2] at this
    exact ⟨z, h1, this⟩
  have hsc := mpts_sc hsb hN5
  have hd := mpts_pw s N
  have hln : (mpts s N).length ≤ 1000 := by rw [mpts_len]; omega
  refine fnD Tryz.func7 rfl (ln 0 rfl rfl fun hzl => ?_)
  rw [hil] at hzl
  refine go tt [.r 26 (eI (b := (N : Int)) (by rw [hil, hN]; omega)), .c [] cw, .o 6 35 5] rfl trivial ?_
  refine lp (S := Nat) 3 (fun L1 i => (7, .v (.one (.int .i64 (i : Int)))) :: (6, .v (.one (.orow 2 5 none))) :: L1) (fun i => [.blk 22 [.row (idl zs)], .blk 3 [.int .i64 T], .row false 35 5 (ptrow (mpts s i))]) (fun i => N - i) (fun i => i ≤ N) 0 (Nat.zero_le _) rfl (fun _ _ => rfl) rfl fun i hi => ?_
  have hpl : ∀ i, (ptrow (mpts s i)).length = i := fun i => by rw [rp_len, mpts_len]
  by_cases hlt : i < N
  · obtain ⟨z, hx, c20⟩ := cel i hlt
    have h0 := hsg i
    have p1 := c_POf (p := [s.getD i 0, -(i : Int)]) (by simp) (fun z hz => by simp only [List.mem_cons, List.not_mem_nil, or_false] at hz; omega)
    have p2 := c_POf (p := [(i : Int)]) (by simp) (fun z hz => by simp only [List.mem_cons, List.not_mem_nil, or_false] at hz; omega)
    have hc := (mpt_sc (s := s) (i := i) hsb (by omega)).c
    have hcs : Cs 90 3 (Crv.mk (trim [s.getD i 0, -(i : Int)]) (trim [(i : Int)]) 0) := ⟨hc.x, hc.y, by show isz 0 ≤ 90; decide, hc.lx, hc.ly⟩
    have co := c_cOf (isInts_n (trim [s.getD i 0, -(i : Int)])) (isInts_n (trim [(i : Int)])) (hcs.mono (by decide) (by decide))
    rw [mpt_crv] at co
    have hm : ∀ y ∈ [ofPt (mpt s i)], y.length = 5 := fun y hy => by rw [List.mem_singleton.1 hy]; rfl
    refine go tt [.t (by simpa using hlt), .x (idl_get hx), .c [] c20, .c [] p1, .c [] p2, .c [] co, .s (sz := 5) hm] rfl (by simp [AllP, hpl, IntKind.bits]; omega) ?_
    exact rd (i + 1) (by omega) hlt (by rw [mpts_snoc]; rfl)
  have hiN : i = N := by omega
  rw [hiN]
  clear hlt hi hiN
  have zp := isPts_n (s := 4294967294) (n := 1073741824) fun p hp => (hsc p hp).pt
  have hq0 : Qs 900 (ratOf 0 0) := ⟨by decide, by decide⟩
  have cn := c_SoNew zp (by rw [mpts_len]; omega) (mpts_new s (by omega)) hsc hln isInt_zero isInt_zero (by decide) (by decide) hq0
  have r0 : ratOf 0 0 = 0 := by decide
  rw [r0] at cn hq0
  have hv : Va (tq 0) := va_q hq0
  have htq : Qs 900 (T : Rat) := ⟨Nat.le_trans (isz_le.2 (show T.natAbs < 2 ^ 60 by omega)) (by decide), by show isz 1 ≤ 900; decide⟩
  have S := stabS hsc hln hd
  have hst : KSt (bcS (mpts s N)) (brS (mpts s N)) (begS (mpts s N) (tq 0)) (brS (mpts s N) (tq 0)) := beg_st S hv
  have hcmp : cmpR (begS (mpts s N) (tq 0)).now (T : Rat) ≤ 0 := by
    show cmpR (tq 0) (T : Rat) ≤ 0
    rw [tq_pt]
    refine cmpQ_le.2 ?_
    have : ((0 : Int) : Rat) ≤ (T : Rat) := Rat.intCast_le_intCast.2 hT0.1
    exact this
  have hal : (allP (mpts s N)).length ≤ 1000000 := by
    rw [allP_len, mpts_len]
    have : N * (N * 2) ≤ 5 * (5 * 2) := Nat.mul_le_mul hN5 (Nat.mul_le_mul hN5 (Nat.le_refl 2))
    omega
  obtain ⟨K, c', E, hK, hg, hnow, hS', hev, hEl, hE⟩ := adv_ok S (allP_cp hsc) (fun a _ => bcS_all) hal htq hst hcmp
  have cadv := c_SAdv (l := mpts s N) (K := K) htq hsc hln hst.inv.ok ⟨Int.le_refl 0, by show (0 : Int) + K ≤ 1000000000000000000; omega⟩ hcmp hg
  have hpw := row_place hsb hN5 htq
  have hrl : (rowA (tq (T : Rat)) (mpts s N)).length = N := by rw [rowA_len, mpts_len]
  have hrm : ∀ p ∈ rowA (tq (T : Rat)) (mpts s N), ∃ i, i < N ∧ p = mpt s i := fun p hp => by
    obtain ⟨i, hi, e⟩ := List.mem_map.1 (rowA_mem.1 hp)
    exact ⟨i, List.mem_range.1 hi, e.symm⟩
  obtain ⟨r, hr⟩ : ∃ r, r = rowA (tq (T : Rat)) (mpts s N) := ⟨_, rfl⟩
  have hbr : brS (mpts s N) (tq (T : Rat)) = ptrow r := by rw [hr]
  rw [hbr] at cadv
  rw [← hr] at hpw hrl hrm
  have cids := c_SIds (c := c') (l := mpts s N) (s := r) (by omega)
  obtain ⟨R, hR⟩ : ∃ R, R = r.map (·.id) := ⟨_, rfl⟩
  rw [← hR] at cids
  have hRl : (idl R).length = N := by rw [hR]; simp [hrl]
  have hRg : ∀ j, j < N → ∃ i : Nat, i < N ∧ R[j]? = some (i : Int) := fun j hj => by
    obtain ⟨p, hp⟩ : ∃ p, r[j]? = some p := ⟨_, List.getElem?_eq_getElem (by omega)⟩
    obtain ⟨i, hi, e⟩ := hrm p (List.mem_of_getElem? hp)
    exact ⟨i, hi, by rw [hR, List.getElem?_map, hp, e]; rfl⟩
  have hRp : ∀ j, j + 1 < N → ∃ i k : Nat, i < N ∧ k < N ∧ R[j]? = some (i : Int) ∧ R[j + 1]? = some (k : Int) ∧ (s.getD i 0 - i * T < s.getD k 0 - k * T ∨ s.getD i 0 - i * T = s.getD k 0 - k * T ∧ k < i) := fun j hj => by
    have h1 : j < r.length := by omega
    have h2 : j + 1 < r.length := by omega
    obtain ⟨i, k, hi, hk, e1, e2, h3⟩ := List.pairwise_iff_getElem.1 hpw j (j + 1) h1 h2 (by omega)
    exact ⟨i, k, hi, hk, by rw [hR, List.getElem?_map, List.getElem?_eq_getElem h1, e1]; rfl, by rw [hR, List.getElem?_map, List.getElem?_eq_getElem h2, e2]; rfl, h3⟩
  have cpl : ∀ i : Nat, i < N → DoesD Tryz.prog 43 [.one (.int .i64 (i : Int)), .one (.ow 0 0), .one (.ow 1 0)] [.blk 22 [.row (idl zs)], .blk 3 [.int .i64 T]] [.one (.int .i64 (s.getD i 0 - (i : Int) * T))] [.blk 22 [.row (idl zs)], .blk 3 [.int .i64 T]] := fun i hi => by
    have := c_place (zs := zs) (T := T) (i := i) hz hT0 (by omega) (by omega)
    rw [← hs] at this; exact this
  refine go tt [.f (by simp), .c [3] cn, .g 60 false rfl, .f rfl, .c [] (c_OfR1 (n := T) (by omega)), .c [] (c_ToR (htq.mono (by decide))), .c [3] cadv, .f rfl, .c [3] cids, .f (by simp [hRl])] rfl trivial ?_
  refine lp (S := Nat) 4 (fun L1 j => (83, .v (.one (.int .i64 (j : Int)))) :: L1) (fun _ => [.blk 22 [.row (idl zs)], .blk 3 [.int .i64 T], .gone, .blk 96 (crl c' (ptrow (mpts s N)) (ptrow r))]) (fun j => N - j) (fun j => j ≤ N) 0 (Nat.zero_le _) rfl (fun _ _ => rfl) rfl fun j hj => ?_
  by_cases hlt : j < N
  · obtain ⟨i, hi, hri⟩ := hRg j hlt
    refine go tt [.t (by simp [hRl]; omega), .x (idl_get hri), .g 91 false (decide_eq_false (by omega)), .x (idl_get hri), .f (decide_eq_false (by omega))] rfl (by simp [AllP]; omega) ?_
    exact rd (j + 1) (by omega) hlt rfl
  have hjN : j = N := by omega
  rw [hjN]
  clear hlt hj hjN
  refine go tt [.f (by simp [hRl])] rfl trivial ?_
  refine lp (S := Nat) 4 (fun L1 k => (14, .v (.one (.int .i64 ((k + 1 : Nat) : Int)))) :: L1) (fun _ => [.blk 22 [.row (idl zs)], .blk 3 [.int .i64 T], .gone, .blk 96 (crl c' (ptrow (mpts s N)) (ptrow r))]) (fun k => N - k) (fun k => k ≤ N) 0 (Nat.zero_le _) rfl (fun _ _ => rfl) rfl fun k hk => ?_
  by_cases hlt : k + 1 < N
  · obtain ⟨i, m, hi, hm, hri, hrm2, hrel⟩ := hRp k hlt
    have ca := cpl i hi
    have cb := cpl m hm
    rcases hrel with hrel | ⟨hrel, hmi⟩
    · refine go tt [.t (by simp; omega), .r 107 (eI (b := (k : Int)) (by simp)), .x (idl_get hri), .x (idl_get hrm2), .c [0, 1] ca, .c [0, 1] cb, .g 121 false (decide_eq_false (by omega)), .c [0, 1] ca, .c [0, 1] cb, .g 129 false (decide_eq_false (by omega)), .f rfl, .r 104 (eI (b := ((k + 1 + 1 : Nat) : Int)) (by simp))] rfl (by simp [AllP]; omega) ?_
      exact rd (k + 1) (by omega) (by omega) rfl
    · refine go tt [.t (by simp; omega), .r 107 (eI (b := (k : Int)) (by simp)), .x (idl_get hri), .x (idl_get hrm2), .c [0, 1] ca, .c [0, 1] cb, .g 121 false (decide_eq_false (by omega)), .c [0, 1] ca, .c [0, 1] cb, .g 129 true (decide_eq_true (by omega)), .f (decide_eq_false (by omega)), .r 104 (eI (b := ((k + 1 + 1 : Nat) : Int)) (by simp))] rfl (by simp [AllP]; omega) ?_
      exact rd (k + 1) (by omega) (by omega) rfl
  refine go tt [.f (by simp; omega), .o 17 94 2] rfl trivial ?_
  refine lp (S := Nat × List (Int × Int)) 5 (fun L1 x => (18, .v (.one (.int .i64 (x.1 : Int)))) :: (17, .v (.one (.orow 4 2 none))) :: L1) (fun x => [.blk 22 [.row (idl zs)], .blk 3 [.int .i64 T], .gone, .blk 96 (crl c' (ptrow (mpts s N)) (ptrow r)), .row false 94 2 (prow x.2)]) (fun x => N - x.1) (fun x => x.1 ≤ N ∧ Gat s N T x.2 (fun i _ => i < x.1) ∧ x.2.length ≤ 5 * x.1) (0, []) ⟨Nat.zero_le _, ⟨.nil, fun x hx => (by cases hx), fun i j h => (by omega)⟩, Nat.le_refl _⟩ rfl (fun _ _ => rfl) rfl fun ⟨i, l⟩ ⟨hi, hti, hl⟩ => ?_
  dsimp only at hi hti hl ⊢
  by_cases hlt : i < N
  · obtain ⟨zi, hxi, ci⟩ := cel i hlt
    have hsi := hsg i
    refine go tt [.t (by simpa using hlt), .r 141 (eI (b := ((i + 1 : Nat) : Int)) (by simp))] rfl (by simp [AllP]; omega) ?_
    refine lp (S := Nat × List (Int × Int)) 5 (fun L1 x => (19, .v (.one (.int .i64 (x.1 : Int)))) :: (17, .v (.one (.orow 4 2 none))) :: L1) (fun x => [.blk 22 [.row (idl zs)], .blk 3 [.int .i64 T], .gone, .blk 96 (crl c' (ptrow (mpts s N)) (ptrow r)), .row false 94 2 (prow x.2)]) (fun x => N - x.1) (fun x => (i < x.1 ∧ x.1 ≤ N) ∧ Gat s N T x.2 (fun i' j' => i' < i ∨ i' = i ∧ j' < x.1) ∧ x.2.length ≤ 5 * i + x.1) (i + 1, l) ⟨⟨by dsimp only; omega, by dsimp only; omega⟩, hti.imp fun i' j' h h1 h2 => .inl (by dsimp only at h; omega), by dsimp only; omega⟩ rfl (fun _ _ => rfl) rfl fun ⟨j, l⟩ ⟨hj, htj, hl⟩ => ?_
    dsimp only at hj htj hl ⊢
    clear hti
    by_cases hltj : j < N
    · obtain ⟨zj, hxj, cj⟩ := cel j hltj
      have hsj := hsg j
      obtain ⟨A, hA⟩ : ∃ A, A = s.getD j 0 - s.getD i 0 := ⟨_, rfl⟩
      obtain ⟨B, hB⟩ : ∃ B, B = (j : Int) - (i : Int) := ⟨_, rfl⟩
      have hBT : B * T ≤ 4 * 30 := Int.le_trans (Int.mul_le_mul_of_nonneg_right (by omega) hT0.1) (Int.mul_le_mul_of_nonneg_left (by omega) (by decide))
      have hBT0 : 0 ≤ B * T := Int.mul_nonneg (by omega) hT0.1
      by_cases h0 : A ≤ 0
      · refine go tt [.t (by simpa using hltj), .x (idl_get hxj), .c [] cj, .x (idl_get hxi), .c [] ci, .r 157 (eI hA.symm), .r 160 (eI hB.symm), .g 163 true (decide_eq_true h0), .t rfl] rfl (by simp [AllP, -List.getD_eq_getElem?_getD]; omega) ?_
        exact rd (j + 1, l) (by dsimp only; omega) ⟨⟨by dsimp only; omega, hltj⟩, htj.imp fun i' j' h h1 h2 => by
          dsimp only at h
          by_cases e : i' = i ∧ j' = j
          · obtain ⟨rfl, rfl⟩ := e; exact .inr fun h => by omega
          · exact .inl (by omega), by dsimp only; omega⟩ rfl
      by_cases hgt : B * T < A
      · refine go tt [.t (by simpa using hltj), .x (idl_get hxj), .c [] cj, .x (idl_get hxi), .c [] ci, .r 157 (eI hA.symm), .r 160 (eI hB.symm), .g 163 false (decide_eq_false h0), .t (decide_eq_true hgt)] rfl (by simp [AllP, -List.getD_eq_getElem?_getD]; omega) ?_
        exact rd (j + 1, l) (by dsimp only; omega) ⟨⟨by dsimp only; omega, hltj⟩, htj.imp fun i' j' h h1 h2 => by
          dsimp only at h
          by_cases e : i' = i ∧ j' = j
          · obtain ⟨rfl, rfl⟩ := e; exact .inr fun h => by rw [← hA, ← hB] at h; omega
          · exact .inl (by omega), by dsimp only; omega⟩ rfl
      refine go tt [.t (by simpa using hltj), .x (idl_get hxj), .c [] cj, .x (idl_get hxi), .c [] ci, .r 157 (eI hA.symm), .r 160 (eI hB.symm), .g 163 false (decide_eq_false h0), .f (decide_eq_false hgt)] rfl (by simp [AllP, -List.getD_eq_getElem?_getD]; omega) ?_
      have hpr := prow_len l
      have hmb : ∀ x ∈ l, x.1.natAbs ≤ 20 ∧ x.2.natAbs ≤ 5 := fun x hx => by
        obtain ⟨_, _, _, i', j', h1, h2, e⟩ := htj.mem x hx
        have := hsg i'; have := hsg j'
        rw [e]; dsimp only; omega
      refine lp (S := Nat × Bool) 5 (fun L1 y => (172, .v (.one (.int .i64 (y.1 : Int)))) :: (22, .v (.one (.bool y.2))) :: L1) (fun _ => [.blk 22 [.row (idl zs)], .blk 3 [.int .i64 T], .gone, .blk 96 (crl c' (ptrow (mpts s N)) (ptrow r)), .row false 94 2 (prow l)]) (fun y => l.length - y.1) (fun y => y.1 ≤ l.length ∧ (y.2 = true ↔ ∃ (m : Nat) (x : Int × Int), m < y.1 ∧ l[m]? = some x ∧ x.1 * B = A * x.2)) (0, false) ⟨Nat.zero_le _, ⟨fun h => (by cases h), fun ⟨m, x, h, _⟩ => (by omega)⟩⟩ rfl (fun _ _ => rfl) rfl fun y hy => ?_
      obtain ⟨m, b⟩ := y
      obtain ⟨hm, hb⟩ := hy
      dsimp only at hm hb ⊢
      by_cases hltm : m < l.length
      · obtain ⟨x, hx⟩ : ∃ x, l[m]? = some x := ⟨_, List.getElem?_eq_getElem hltm⟩
        have hx' := prow_get hx
        have hxb := hmb x (List.mem_of_getElem? hx)
        have b1 : (x.1 * B).natAbs ≤ 20 * 5 := by rw [Int.natAbs_mul]; exact Nat.mul_le_mul hxb.1 (by omega)
        have b2 : (A * x.2).natAbs ≤ 20 * 5 := by rw [Int.natAbs_mul]; exact Nat.mul_le_mul (by omega) hxb.2
        cases b with
        | true =>
          refine go tt [.t (by simp [hpr]; omega), .g 176 true rfl] rfl (by simp [AllP, -List.getD_eq_getElem?_getD]; omega) ?_
          exact rd (m + 1, true) (by dsimp only; omega) ⟨hltm, ⟨fun _ => by
            obtain ⟨m', y, h1, h2⟩ := hb.1 rfl
            exact ⟨m', y, by dsimp only; omega, h2⟩, fun _ => rfl⟩⟩ rfl
        | false =>
          refine go tt [.t (by simp [hpr]; omega), .g 176 false rfl, .i m, .i 0, .x hx', .i m, .i 1, .x hx'] rfl (by clear hb hmb htj; simp [AllP, hpr, -List.getD_eq_getElem?_getD]; omega) ?_
          exact rd (m + 1, decide (x.1 * B = A * x.2)) (by dsimp only; omega) ⟨hltm, ⟨fun h => ⟨m, x, by dsimp only; omega, hx, of_decide_eq_true h⟩, fun ⟨m', y, h1, h2, h3⟩ => by
            dsimp only at h1 ⊢
            rcases Nat.lt_or_eq_of_le (Nat.le_of_lt_succ h1) with h4 | h4
            · exact absurd (hb.2 ⟨m', y, h4, h2, h3⟩) (by decide)
            · subst h4; rw [hx] at h2; injection h2 with h2; subst h2; exact decide_eq_true h3⟩⟩ rfl
      have hml : m = l.length := by omega
      rw [hml] at hb ⊢
      have h0' : 0 < s.getD j 0 - s.getD i 0 := by omega
      have ht' : s.getD j 0 - s.getD i 0 ≤ ((j : Int) - (i : Int)) * T := by rw [← hA, ← hB]; omega
      have hq : ∀ i' j' : Nat, (i' < i ∨ i' = i ∧ j' < j + 1) → (i' < i ∨ i' = i ∧ j' < j) ∨ i' = i ∧ j' = j := fun i' j' h => by omega
      cases b with
      | true =>
        obtain ⟨m', x, _, h2, h3⟩ := hb.1 rfl
        refine go tt [.f (by simp [hpr]), .f rfl] rfl (by simp [AllP, -List.getD_eq_getElem?_getD]; omega) ?_
        exact rd (j + 1, l) (by dsimp only; omega) ⟨⟨by dsimp only; omega, hltj⟩, htj.old (a := i) (b := j) (List.mem_of_getElem? h2) (by rw [← hA, ← hB]; exact h3) hq, by dsimp only; omega⟩ rfl
      | false =>
        have hno : ∀ x ∈ l, x.1 * ((j : Int) - (i : Int)) ≠ (s.getD j 0 - s.getD i 0) * x.2 := fun x hx h => by
          rw [← hA, ← hB] at h
          obtain ⟨m', hm', e⟩ := List.mem_iff_getElem.1 hx
          exact absurd (hb.2 ⟨m', x, hm', by rw [List.getElem?_eq_getElem hm', e], h⟩) (by decide)
        refine go tt [.f (by simp [hpr]), .t rfl, .s (sz := 2) (l := [[.int .i64 A, .int .i64 B]]) (fun c hc => by rw [List.mem_singleton.1 hc]; rfl)] rfl (by simp [AllP, hpr, -List.getD_eq_getElem?_getD]; omega) ?_
        have hn := htj.new (a := i) (b := j) (Q := fun i' j' => i' < i ∨ i' = i ∧ j' < j + 1) (by omega) hltj h0' ht' hno hq
        rw [← hA, ← hB] at hn
        exact rd (j + 1, l ++ [(A, B)]) (by dsimp only; omega) ⟨⟨by dsimp only; omega, hltj⟩, hn, by dsimp only; rw [List.length_append]; show l.length + 1 ≤ _; omega⟩ (by simp [prow]; rfl)
    have hjN : j = N := by omega
    rw [hjN] at htj hl ⊢
    refine go tt [.f (by simp)] rfl (by simp [AllP, -List.getD_eq_getElem?_getD]; omega) ?_
    exact rd (i + 1, l) (by dsimp only; omega) ⟨hlt, htj.imp fun i' j' h h1 h2 => .inl (by dsimp only at h; omega), by dsimp only; omega⟩ rfl
  have hiN : i = N := by omega
  rw [hiN] at hti ⊢
  have hlen := times_len hsb hN5 (t := T) hti.pw hti.mem (fun i j hij hj h3 h4 => hti.all i j (by omega) hij hj h3 h4) hE hv
  have hev' : c'.ev = ((E.length : Nat) : Int) := by rw [hev]; show (0 : Int) + _ = _; omega
  have hpr := prow_len l
  exact en tt [.f (by simp), .g 206 true (decide_eq_true (by rw [hpr, hlen])), .c [3] c_KEvents, .g 214 true (decide_eq_true hev'), .c [] d_wakes18] rfl rfl trivial
end Orr

namespace Orr
open Go Go.Proofs
variable {H : Type} {enc : TypeId × Value → H} {w : World} {base : Nat} {spare : Nat → Bool} {held : Bool}
end Orr

namespace Orr
open Go Go.Proofs Go.ChangeShapes Go.WideShapes Go.ChangeAt Go.RowKit Go.WideElems

theorem cell_at {w : World} {a : Addr} {v : Value} (h : w.cell? a = some v) : a.spot = none ∧ a.block < w.heap.size := by
  simp only [World.cell?] at h
  split at h
  · rename_i c t fr hc
    split at h
    · cases h
    · rename_i hs
      refine ⟨by cases e : a.spot with | none => rfl | some _ => simp [e] at hs, ?_⟩
      exact (Array.getElem?_eq_some_iff.1 hc).1
  · cases h
theorem add_add {a : Addr} (h : a.spot = none) (n m : Nat) : (a.add n).add m = ⟨a.block, a.off + n + m, none⟩ := by
  obtain ⟨b, o, s⟩ := a
  simp only at h
  subst h
  simp only [Addr.add]
  split
  · rename_i h; subst h
    split
    · rename_i h; subst h; simp
    · simp
  · split
    · rename_i h; subst h; simp
    · simp

/-- the frame of a law: all of the old memory stays -/
def fr0 (w : World) : Fr := ⟨fun b => b < w.heap.size, fun _ => False, w, fun _ => False, fun _ => none⟩
theorem hs0 (w : World) : HS (fr0 w) (ob []) (nw []) (fun _ => none) (fun _ => False) w where
  size := Nat.le_refl _
  kept := fun b hb => ⟨hb, rfl, Iff.rfl⟩
  ids := fun i h => h.elim
  nj := fun i h => by rw [ob_nil] at h; cases h
  io := ⟨rfl, rfl⟩
  blk := fun i => by rw [ob_nil]; trivial
  nk := fun i g c m h _ => by rw [ob_nil] at h; cases h
  inj := fun i j g c m c' m' h _ _ _ => by rw [ob_nil] at h; cases h
  mlt := fun b h => h.elim
  m0 := fun b _ h => h.elim
  un := fun i _ => ⟨rfl, rfl⟩
  uj := fun i _ h => h.elim
theorem same_of {w w' : World} {bl : Nat → OB} {U : Nat → Prop} {E : Env} {M : Nat → Prop} (h : HS (fr0 w) bl U E M w') {p : MemPlace} (hp : p.block < w.heap.size) : w.sameAt w' p := by
  cases p with
  | cell b off => simp only [World.sameAt, World.cell?]; rw [(h.kept b hp).2.1]; rfl
  | map b => exact (h.kept b hp).2.1
theorem kept_of {w w' : World} {bl : Nat → OB} {U : Nat → Prop} {E : Env} {M : Nat → Prop} (h : HS (fr0 w) bl U E M w') (may : MemPlace → Prop) : w.keptBut w' may := by
  refine ⟨h.io.1, h.io.2, fun i hi => ?_⟩
  have e : w'.heap[i]? = w.heap[i]? := (h.kept i hi).2.1
  rw [e]
  cases w.heap[i]? with
  | none => rfl
  | some o => cases o <;> simp

end Orr

namespace Orr
open Go Go.Proofs Go.ChangeShapes Go.WideShapes Go.ChangeAt Go.RowKit Go.WideElems
set_option maxRecDepth 20000 in
/-- a row of numbers -/
theorem ints_read {H : Type} {enc : TypeId × Value → H} {w : World} {v : Value} {d : DataW H} {ps : List MemPlace} {ts : List TypeId} {ds : List (DataW H)} {base : Nat}
    (hval : Value.okWide Tryz.prog w .any base 22 v) (h : DataW.Trod enc Tryz.prog w 0 (fun _ => true) true 22 v d ps)
    (hz : (DataW.weightsEach Tryz.prog ts ds).all (· ≤ reachBytes) = true) (ht : ts[0]? = some 22) (hd : ds[0]? = some d) :
    ∃ zs : List Int, (∀ z ∈ zs, -9223372036854775808 ≤ z ∧ z ≤ 9223372036854775807) ∧ LRep w (fun _ => False) v (.row (idl zs)) := by
  obtain ⟨a, len, cap, rfl⟩ := okWide_slice Tryz.underlying22 hval
  obtain ⟨fu, h⟩ := h
  rcases Go.Deep.open_slice Tryz.underlying22 h with ⟨e, _⟩ | ⟨a', len', cap', m, n, D, Pl, e, _, hlc, hcap, hm, hx, hr⟩
  · simp only [Value.cells] at e
    have e : Value.slice a len cap = .slice none 0 0 := by simpa using e
    injection e with e1 e2 e3
    subst e1 e2 e3
    refine ⟨[], fun z hz => by simp at hz, ?_⟩
    exact LRep.row none 0 0 0 0 [] (fun _ _ => .bool true) (Nat.le_refl _) (by decide) (by simp) (by simp) (by simp) (by simp)
  · simp only [Value.cells] at e
    have e : Value.slice a len cap = .slice (some a') len' cap' := by simpa using e
    injection e with e1 e2 e3
    subst e1 e2 e3
    simp only [if_true] at hm
    subst hm
    have hd' : d = _ := congrArg Prod.fst hx
    subst hd'
    have hw := sized_slice hz ht hd Tryz.underlying22
    have hc5 : Tryz.prog.cellsOf 3 = 1 := by kernel_rfl
    have hb : 1 ≤ Tryz.prog.bytesOf 3 := of_decide_eq_true (by kernel_rfl)
    have hlen : len < 2 ^ 47 := by
      have h1 : len ≤ (len + (m - len)) * Tryz.prog.bytesOf 3 := by
        have := Nat.mul_le_mul (Nat.le_add_right len (m - len)) hb
        omega
      have h2 : (len + (m - len)) * Tryz.prog.bytesOf 3 ≤ reachBytes := by simpa using hw
      exact Nat.lt_of_le_of_lt (Nat.le_trans h1 h2) reachBytes_lt
    have hread : ∀ i, i < len → ∃ id : Int, w.cells? 0 (a'.add (i * 1)) 1 = some [.int .i64 id] ∧ (Lit.int .i64 id).wf = true := by
      intro i hi
      obtain ⟨cs, hcs, htr⟩ := hr i (by omega)
      rw [hc5] at hcs
      obtain ⟨id, e1, _, hw⟩ := DataW.trod_int Tryz.underlying3 htr
      subst e1
      exact ⟨id, hcs, hw⟩
    have hone : ∀ i, ∃ (id : Int), i < len → a'.spot = none ∧ a'.block < w.heap.size ∧
        w.cell? ⟨a'.block, a'.off + i * 1 + 0, none⟩ = some (.int .i64 id) ∧ (Lit.int .i64 id).wf = true := by
      intro i
      by_cases hi : i < len
      · obtain ⟨id, hcs, hwf⟩ := hread i hi
        obtain ⟨_, hl, hcell⟩ := World.cells?_some hcs
        have c0 := hcell 0 (by decide)
        have hsp : a'.spot = none := by
          obtain ⟨id0, hcs0, _⟩ := hread 0 (by omega)
          obtain ⟨_, _, hcell0⟩ := World.cells?_some hcs0
          have c0 := hcell0 0 (by decide)
          have : (a'.add (0 * 1)).add 0 = a' := by simp [Addr.add]
          rw [this] at c0
          exact (cell_at c0).1
        rw [add_add hsp] at c0
        exact ⟨id, fun _ => ⟨hsp, (cell_at c0).2, by simpa using c0, hwf⟩⟩
      · exact ⟨0, fun h => absurd h hi⟩
    let I : Nat → Int := fun i => Classical.choose (hone i)
    have hI : ∀ i, i < len → a'.spot = none ∧ a'.block < w.heap.size ∧
        w.cell? ⟨a'.block, a'.off + i * 1 + 0, none⟩ = some (.int .i64 (I i)) ∧ (Lit.int .i64 (I i)).wf = true := fun i => Classical.choose_spec (hone i)
    let zs : List Int := (List.range len).map I
    have hzl : (idl zs).length = len := by simp [zs]
    have hzg : ∀ i cs, (idl zs)[i]? = some cs → i < len ∧ cs = [.int .i64 (I i)] := by
      intro i cs h
      simp only [zs, idl, List.getElem?_map] at h
      by_cases hi : i < len
      · rw [List.getElem?_range hi] at h
        simp at h
        exact ⟨hi, h.symm⟩
      · rw [List.getElem?_eq_none (by simp; omega)] at h
        cases h
    refine ⟨zs, ?_, ?_⟩
    · intro z hz
      obtain ⟨i, hi, rfl⟩ := List.mem_map.1 hz
      have hwf := (hI i (List.mem_range.1 hi)).2.2.2
      simpa [Lit.wf, IntKind.min, IntKind.max, IntKind.signed, IntKind.bits] using hwf
    · have key : LRep w (fun _ => False) (.slice (some a') (idl zs).length m) (.row (idl zs)) := by
        refine LRep.row (some a') m 1 a'.block a'.off (idl zs) (fun i _ => .int .i64 (I i)) (by omega) ?_ ?_ ?_ ?_ ?_
        · have : maxLen = 2 ^ 63 - 1 := by rfl
          omega
        · intro cs hcs
          obtain ⟨i, hi⟩ := List.mem_iff_getElem?.1 hcs
          obtain ⟨_, rfl⟩ := hzg i cs hi
          rfl
        · intro h0
          obtain ⟨hs, hb, _⟩ := hI 0 (by omega)
          refine ⟨?_, hb, by simp⟩
          obtain ⟨b, o, s⟩ := a'
          simp only at hs
          rw [hs]
        · intro i cs hi j hj
          obtain ⟨hl, rfl⟩ := hzg i cs hi
          obtain rfl : j = 0 := by simpa using hj
          exact (hI i hl).2.2.1
        · intro i cs hi j x hx
          obtain ⟨hl, rfl⟩ := hzg i cs hi
          match j, hx with
          | 0, hx => simp at hx; subst hx; exact .int _ _
          | j + 1, hx => simp at hx
      rwa [hzl] at key
set_option maxRecDepth 20000 in
/-- a law of a row of numbers, and a number -/
theorem law_ints {f : FuncId} {fn : Func} {s : ChangeSpec} (hp : fn.params = #[22, 3]) (hr : fn.resultTypes = #[4]) (hv : s.vars = [])
    (hs : ∀ (H : Type) (d1 d2 : DataW H), s.fn H [d1, d2] = { results := [.lit (.bool true)], args := [d1, d2] })
    (hlaid : laidOutB Tryz.prog = true) (hr22 : Tryz.prog.readableRec 22 = true) (hr3 : Tryz.prog.readableRec 3 = true) (hs22 : 22 < Tryz.prog.types.size) (hs3 : 3 < Tryz.prog.types.size)
    (law : ∀ (zs : List Int) (n : Int), (∀ z ∈ zs, -9223372036854775808 ≤ z ∧ z ≤ 9223372036854775807) → (-2^63 ≤ n ∧ n ≤ 2^63-1) → Does Tryz.prog f [.one (.row (idl zs)), .one (.int .i64 n)] [.one (.bool true)])
    {H : Type} {enc : TypeId × Value → H} {W : World} {base : Nat} {args : Array Value} {ds gs : List (DataW H)} {before : List MemPlace} {fresh handsOn : Bool}
    (hval : ∀ (j : Nat) t v, fn.params[j]? = some t → args[j]? = some v → Value.okWide Tryz.prog W .any base t v)
    (hW : DataW.Whole enc Tryz.prog fn.params.toList s.vars false W args.toList ds gs before)
    (hz : (DataW.weightsEach Tryz.prog (fn.params.toList ++ s.plain.varTypes Tryz.prog) (ds ++ gs)).all (· ≤ reachBytes) = true) :
    Calls Tryz.prog f args W fun e W' => ∃ v, e = .returned v ∧ s.post enc Tryz.prog fn false fresh handsOn false W args v W' := by
  have hW' := hW
  obtain ⟨p, q, hA0, hV, rfl, hfz, hnd⟩ := hW
  have hA : DataW.TrodAll enc Tryz.prog W 0 (fun _ => true) true fn.params.toList args.toList ds p := hA0
  rw [hv] at hV
  obtain ⟨rfl, rfl⟩ := trodVars_none hV
  have hlt := hW'.lt
  rw [hp] at hA hval hz
  obtain ⟨v0, vs0, d0, ds0, p0, q0, hargs0, rfl, rfl, h0, r0⟩ := trodAll_cons hA
  obtain ⟨v1, vs1, d1, ds1, p1, q1, rfl, rfl, rfl, h1, r1⟩ := trodAll_cons r0
  obtain ⟨rfl, rfl, rfl⟩ := trodAll_nil r1
  obtain rfl : args = #[v0, v1] := by cases args; simp_all
  obtain ⟨n, rfl, rfl, rfl, w1⟩ := open_int Tryz.underlying3 (hval 1 3 v1 rfl rfl) h1
  obtain ⟨zs, hn, hrep⟩ := ints_read (hval 0 22 v0 rfl rfl) h0 hz rfl rfl
  have hn1 : -2^63 ≤ n ∧ n ≤ 2^63-1 := by simpa [Lit.wf, IntKind.min, IntKind.max, IntKind.signed, IntKind.bits] using w1
  have hcall := (law zs n hn hn1).2 (fr0 W) (fun _ => none) (fun _ => False) W [v0, .int .i64 n] (hs0 W) (.cons (show XRep W (fun _ => False) (fun _ => none) v0 (.row (idl zs)) from hrep.x) (.cons (show XRep W (fun _ => False) (fun _ => none) (.int .i64 n) (.int .i64 n) from (LRep.int .i64 n).x) .nil))
  refine hcall.mono fun e W' ⟨v, u, Bo, E', M', he, ⟨hu, hBo⟩, _, hm, har⟩ => ?_
  subst hu
  obtain rfl : v = .bool true := by
    have h : LRep _ _ v (.bool true) := har
    cases h
    rfl
  refine ⟨_, he, ?_⟩
  refine ⟨[d0, .lit (.int .i64 n)], [], _, [], p0 ++ ([] ++ []), [], hW', ?_, ?_, ?_, kept_of hm _, fun h => by cases h⟩
  · rw [hr, List.append_nil, hs]
    exact trodAll_cons_mk (shut_bool Tryz.underlying4 true) trodAll_mk0
  · rw [hp, List.append_nil, hs]
    have hb : ∀ p ∈ p0, p.block < W.heap.size := fun p hp => hlt p (by simp [hp])
    exact trodAll_cons_mk (Trod_stays hlaid hr22 hs22 h0 (fun p hp => same_of hm (hb p hp)) (fun p hp => by simpa using hb p hp)) (trodAll_cons_mk (shut_int Tryz.underlying3 w1) trodAll_mk0)
  · rw [hv, List.append_nil, hs]
    rfl
end Orr
