/- Numbers over digits of four decimals: plain laws. The reference: natural numbers over digits of four decimals, told by what they mean. The reference: whole numbers as rational ones. The example of the document of sorted rows: walked. The law SortedNews: walked. What an argument reads as, told in plain data, where it is not looked into. The last step of a law of points and a number: the arguments as they lie in memory are told in plain data; behind the call nothing of the old memory has changed. -/
import Derived.Test.YtbnjginelkkonaaGreatPart04
import Derived.Test.YtbnjginelkkonaaGreatPart08
import Derived.Deep.Slices
import Derived.ProofKit
import Derived.OpenShut
import Derived.WideKeyArgs
import Derived.SizedLaws
set_option linter.all false

namespace Orr
open Go
def dvv : List Nat → Nat
  | [] => 0
  | x :: l => x + 10000 * dvv l
def Dg (l : List Nat) : Prop := ∀ x ∈ l, x < 10000
def dcs (x : Nat) : List Nat := if h : x = 0 then [] else (x % 10000) :: dcs (x / 10000)
termination_by x
decreasing_by omega
theorem dcs_zero : dcs 0 = [] := by unfold dcs; simp
theorem dcs_pos {x : Nat} (h : x ≠ 0) : dcs x = (x % 10000) :: dcs (x / 10000) := by rw [dcs]; simp [h]
theorem dvv_dig (x : Nat) : dvv (dcs x) = x := by
  induction x using Nat.strongRecOn with
  | _ x ih =>
    rcases Nat.eq_zero_or_pos x with h | h
    · subst h; rw [dcs_zero]; rfl
    · rw [dcs_pos (by omega)]
      simp only [dvv]
      rw [ih _ (by omega)]; omega
theorem dcs_lt (x : Nat) : Dg (dcs x) := by
  induction x using Nat.strongRecOn with
  | _ x ih =>
    rcases Nat.eq_zero_or_pos x with h | h
    · subst h; rw [dcs_zero]; intro y hy; cases hy
    · rw [dcs_pos (by omega)]
      intro y hy
      rcases List.mem_cons.1 hy with rfl | hy
      · omega
      · exact ih _ (by omega) y hy
theorem dcs_nil {x : Nat} : (dcs x).length = 0 ↔ x = 0 := by
  constructor
  · intro h
    have h0 := List.eq_nil_of_length_eq_zero h
    have := dvv_dig x
    rw [h0] at this
    exact this.symm
  · rintro rfl; rw [dcs_zero]; rfl
theorem dcs_div {x : Nat} (h : x ≠ 0) : (dcs (x / 10000)).length + 1 = (dcs x).length := by rw [dcs_pos h]; rfl
theorem dcs_len (x : Nat) : (dcs x).length ≤ sz x := by
  induction x using Nat.strongRecOn with
  | _ x ih =>
    by_cases h0 : x = 0
    · subst h0; rw [dcs_zero]; exact Nat.zero_le _
    · have h1 := dcs_div h0
      have h2 := ih (x / 10000) (by omega)
      have h3 : sz (x / 10000) + 1 ≤ sz x := by
        have h4 : x < 2 ^ sz x := lt_sz x
        rcases hs : sz x with _ | k
        · rw [hs] at h4; simp at h4; omega
        · rw [hs] at h4
          have : sz (x / 10000) ≤ k := sz_le.2 (by rw [Nat.pow_succ] at h4; omega)
          omega
      omega
theorem dvv_append (a b : List Nat) : dvv (a ++ b) = dvv a + 10000 ^ a.length * dvv b := by
  induction a with
  | nil => simp [dvv]
  | cons x a ih =>
    simp only [List.cons_append, dvv, ih, List.length_cons, Nat.pow_succ]
    rw [Nat.mul_add, ← Nat.mul_assoc, Nat.mul_comm 10000 (10000 ^ a.length)]; omega
theorem dvv_zero : ∀ {l : List Nat}, (∀ x ∈ l, x = 0) → dvv l = 0
  | [], _ => rfl
  | x :: l, h => by
    have h1 := h x (List.mem_cons_self ..)
    have h2 := dvv_zero (l := l) fun y hy => h y (List.mem_cons_of_mem _ hy)
    simp [dvv, h1, h2]
theorem Dg.take {l : List Nat} (h : Dg l) (k : Nat) : Dg (l.take k) := fun x hx => h x (List.mem_of_mem_take hx)
theorem Dg.snoc {l : List Nat} (h : Dg l) {x : Nat} (hx : x < 10000) : Dg (l ++ [x]) := by
  intro y hy
  rcases List.mem_append.1 hy with hy | hy
  · exact h y hy
  · rw [List.mem_singleton.1 hy]; exact hx
theorem Dg.nil : Dg [] := fun x h => by cases h
/-- a row without a nought on top is that of its number -/
theorem dcs_of : ∀ {l : List Nat}, Dg l → (∀ x, l[l.length - 1]? = some x → x ≠ 0) → l = dcs (dvv l)
  | [], _, _ => by rw [dvv, dcs_zero]
  | x :: l, h, hl => by
    have h1 := h x (List.mem_cons_self ..)
    have h2 : l = dcs (dvv l) := dcs_of (fun y hy => h y (List.mem_cons_of_mem _ hy)) fun y hy => hl y (by
      rcases l with _ | ⟨z, t⟩
      · simp at hy
      · simpa using hy)
    have h3 : x + 10000 * dvv l ≠ 0 := by
      intro e
      have hx : x = 0 := by omega
      have hd : dvv l = 0 := by omega
      rw [hd, dcs_zero] at h2
      subst h2
      exact hl x rfl hx
    simp only [dvv]
    rw [dcs_pos h3, show (x + 10000 * dvv l) % 10000 = x by omega, show (x + 10000 * dvv l) / 10000 = dvv l by omega, ← h2]
theorem dcs_take {l : List Nat} {m : Nat} (hd : Dg l) (hm : m ≤ l.length) (h1 : ∀ j x, m ≤ j → l[j]? = some x → x = 0) (h2 : 0 < m → ∃ y, l[m - 1]? = some y ∧ y ≠ 0) : l.take m = dcs (dvv l) := by
  have e : dvv l = dvv (l.take m) := by
    conv => lhs; rw [← List.take_append_drop m l, dvv_append]
    rw [dvv_zero (l := l.drop m) fun x hx => ?_]
    · omega
    · obtain ⟨j, hj⟩ := List.mem_iff_getElem?.1 hx
      rw [List.getElem?_drop] at hj
      exact h1 (m + j) x (by omega) hj
  rw [e]
  refine dcs_of (hd.take m) fun x hx => ?_
  have hl : (l.take m).length = m := by rw [List.length_take]; omega
  rw [hl] at hx
  rcases Nat.eq_zero_or_pos m with h0 | h0
  · subst h0; simp at hx
  · obtain ⟨y, hy, hy0⟩ := h2 h0
    rw [List.getElem?_take_of_lt (by omega), hy] at hx
    injection hx with hx; rw [← hx]; exact hy0
theorem dvv_drop {l : List Nat} {j d : Nat} (h : l[j]? = some d) : dvv (l.drop j) = d + 10000 * dvv (l.drop (j + 1)) := by
  obtain ⟨hj, he⟩ := List.getElem?_eq_some_iff.1 h
  rw [List.drop_eq_getElem_cons hj, he]; rfl
theorem ddrop_set {l : List Nat} {j y : Nat} (h : j < l.length) : (l.set j y).drop j = y :: l.drop (j + 1) := by
  rw [List.drop_eq_getElem_cons (by simpa using h)]
  simp only [List.getElem_set_self]
  rw [List.drop_set_of_lt (by omega)]
theorem Dg.set {l : List Nat} (h : Dg l) {j y : Nat} (hy : y < 10000) : Dg (l.set j y) := by
  intro x hx
  rcases List.mem_or_eq_of_mem_set hx with hx | rfl
  · exact h x hx
  · exact hy
theorem Dg.zeros (n : Nat) : Dg (List.replicate n 0) := by
  intro x hx; rw [List.eq_of_mem_replicate hx]; decide
/-- one step of a division from above -/
theorem div_step {V kd d : Nat} (hk : 0 < kd) : (d + 10000 * V) / kd = (V % kd * 10000 + d) / kd + 10000 * (V / kd) ∧ (d + 10000 * V) % kd = (V % kd * 10000 + d) % kd ∧ (d < 10000 → (V % kd * 10000 + d) / kd < 10000) := by
  have e := Nat.div_add_mod V kd
  have e2 : d + 10000 * V = (V % kd * 10000 + d) + kd * (10000 * (V / kd)) := by
    conv => lhs; rw [← e]
    grind
  refine ⟨?_, ?_, fun hd => ?_⟩
  · rw [e2, Nat.add_mul_div_left _ _ hk]
  · rw [e2, Nat.add_mul_mod_self_left]
  · have := Nat.mod_lt V hk
    exact (Nat.div_lt_iff_lt_mul hk).2 (by grind)
/-- a row of digits, as a leaf -/
def dl (l : List Nat) : LV := .row (l.map fun (x : Nat) => [.int .i64 (x : Int)])
theorem dlm_len (l : List Nat) : (l.map fun (x : Nat) => [LV.int .i64 (x : Int)]).length = l.length := by simp
theorem dlm_get {l : List Nat} {i x : Nat} (h : l[i]? = some x) : (l.map fun (x : Nat) => [LV.int .i64 (x : Int)])[i]? = some [.int .i64 (x : Int)] := by rw [List.getElem?_map, h]; rfl
abbrev nd (x : Nat) : LV := dl (dcs x)
end Orr

namespace Orr
open Go Go.Proofs
set_option maxRecDepth 10000
abbrev dlm (l : List Nat) : List (List LV) := l.map fun (x : Nat) => [.int .i64 (x : Int)]
theorem c_fcut {l : List Nat} (hd : Dg l) : Does Tryz.prog 162 [.one (.row (dlm l))] [.one (nd (dvv l))] := by
  refine fnD Tryz.func162 rfl (ln 0 rfl rfl fun hl => ?_)
  rw [List.length_map] at hl
  refine go tt [] rfl trivial ?_
  refine lp (S := Nat) 0 (fun L1 n => (3, .v (.one (.int .i64 (n : Int)))) :: L1) (fun _ => []) id (fun n => n ≤ l.length ∧ ∀ j x, n ≤ j → l[j]? = some x → x = 0) (dlm l).length ⟨by simp, fun j x h1 h2 => by
    have := (List.getElem?_eq_some_iff.1 h2).1; simp at h1; omega⟩ rfl (fun _ _ => rfl) rfl fun n ⟨h1, h2⟩ => ?_
  cases n with
  | zero => exact en tt [.g 8 false (by simp), .f rfl, .i 0] rfl (by have := dcs_take hd h1 h2 (fun h => by omega); unfold nd; rw [← this]; simp [dl]) (by simp [AllP])
  | succ n =>
    obtain ⟨x, hx⟩ : ∃ x, l[n]? = some x := ⟨_, List.getElem?_eq_getElem (by omega)⟩
    by_cases h0 : x = 0
    · refine go tt [.g 8 true (by simp), .r 11 (v := .one (.int .i64 (n : Int))) (by simp), .x (dlm_get hx), .t (by simp [h0]), .r 17 (v := .one (.int .i64 (n : Int))) (by simp)] rfl (by simp [AllP]; omega) ?_
      exact rd n (by simp) ⟨by omega, fun j y h3 h4 => by
          rcases Nat.eq_or_lt_of_le h3 with rfl | h3
          · rw [hx] at h4; injection h4 with h4; rw [← h4, h0]
          · exact h2 j y h3 h4⟩ rfl
    · exact en tt [.g 8 true (by simp), .r 11 (v := .one (.int .i64 (n : Int))) (by simp), .x (dlm_get hx), .f (by simp [h0]), .i (n + 1)] rfl (by have := dcs_take hd h1 h2 (fun _ => ⟨x, hx, h0⟩); unfold nd; rw [← this]; simp [dl, List.map_take]) (by simp [AllP] <;> omega)
/-- a division by a small number -/
theorem c_small {x kd : Nat} (hxs : sz x ≤ 100000000) (hk : 0 < kd ∧ kd ≤ 65536) : Does Tryz.prog 161 [.one (nd x), .one (.int .i64 (kd : Int))] [.one (nd (x / kd)), .one (.int .i64 ((x % kd : Nat) : Int))] := by
  have hln := Nat.le_trans (dcs_len x) hxs
  obtain ⟨l, hl⟩ : ∃ l, l = dcs x := ⟨_, rfl⟩
  have hx : dvv l = x := by rw [hl, dvv_dig]
  have hd : Dg l := by rw [hl]; exact dcs_lt x
  show Does Tryz.prog 161 [.one (.row (dlm (dcs x))), .one (.int .i64 (kd : Int))] _
  rw [← hl] at hln ⊢
  rw [← hx]
  have hll := dlm_len l
  refine fnD Tryz.func161 rfl ?_
  refine go tt [.i (dlm l).length, .i (dlm l).length] rfl (by simp [AllP]; omega) ?_
  rw [hll, show List.replicate l.length [LV.int .i64 0] = dlm (List.replicate l.length 0) from by simp [dlm]]
  refine lp (S := Nat × List Nat × Nat) 1 (fun L1 s => (8, .v (.one (.int .i64 ((s.1 : Int) - 1)))) :: (7, .v (.one (.int .i64 (s.2.2 : Int)))) :: L1) (fun s => [.row false 3 1 (dlm s.2.1)]) (fun s => s.1) (fun s => s.1 ≤ l.length ∧ s.2.1.length = l.length ∧ Dg s.2.1 ∧ dvv (s.2.1.drop s.1) = dvv (l.drop s.1) / kd ∧ s.2.2 = dvv (l.drop s.1) % kd) (l.length, List.replicate l.length 0, 0) ⟨Nat.le_refl _, by simp, Dg.zeros _, by simp [dvv], by simp [dvv]⟩ rfl (fun _ _ => rfl) rfl fun ⟨k, o, R⟩ ⟨j1, j2, j3, j4, hR⟩ => ?_
  dsimp only at j1 j2 j3 j4 hR ⊢
  cases k with
  | zero =>
    have cc := c_fcut j3
    rw [List.drop_zero, List.drop_zero] at j4
    rw [j4] at cc
    exact en tt [.f (by simp), .c [] cc] rfl (by rw [hR, List.drop_zero]) trivial
  | succ k =>
    obtain ⟨d, hdk⟩ : ∃ d, l[k]? = some d := ⟨_, List.getElem?_eq_getElem (by omega)⟩
    have hd0 := hd d (List.mem_of_getElem? hdk)
    have hdd := dvv_drop hdk
    obtain ⟨s1, s2, s3⟩ := div_step (V := dvv (l.drop (k + 1))) (kd := kd) (d := d) hk.1
    rw [← hdd] at s1 s2
    have hr := Nat.mod_lt (dvv (l.drop (k + 1))) hk.1
    rw [← hR] at s1 s2 s3 hr
    have e : ((k + 1 : Nat) : Int) - 1 = (k : Int) := by omega
    have htd : ((R : Int) * 10000 + (d : Int)).tdiv (kd : Int) = (((R * 10000 + d) / kd : Nat) : Int) := rfl
    have hle := Nat.div_le_self (R * 10000 + d) kd
    have htb : 0 ≤ ((R : Int) * 10000 + (d : Int)).tdiv (kd : Int) ∧ ((R : Int) * 10000 + (d : Int)).tdiv (kd : Int) ≤ 655369999 := by
      rw [htd]; revert hle; generalize (R * 10000 + d) / kd = Q; intro hle; omega
    rw [e]
    refine go tt [.t (by simp), .x (dlm_get hdk), .r 26 (eI (b := ((R * 10000 + d : Nat) : Int)) (by omega)), .r 31 (eI (b := (((R * 10000 + d) / kd : Nat) : Int)) (by rfl)), .i k, .r 35 (eI (b := (((R * 10000 + d) % kd : Nat) : Int)) (by rfl))] rfl (by simp [AllP]; omega) ?_
    exact rd (k, o.set k ((R * 10000 + d) / kd), (R * 10000 + d) % kd) (by dsimp only; omega) ⟨by dsimp only; omega, by simp [j2], j3.set (s3 hd0), by dsimp only; rw [ddrop_set (by omega)]; simp only [dvv]; rw [j4, s1], by dsimp only; exact s2.symm⟩ (by simp [dlm, List.map_set]; rfl)
theorem sz_div (x k : Nat) : sz (x / k) ≤ sz x := sz_mono (Nat.div_le_self _ _)
theorem limbs_snoc {x y : Nat} {o : List Nat} (h : limbs x = o ++ limbs y) (h0 : y ≠ 0) : limbs x = (o ++ [y % 4294967296]) ++ limbs (y / 4294967296) := by
  rw [h, limbs_pos h0]; simp
theorem lm_snoc (o : List Nat) (z : Nat) : lm (o ++ [z]) = lm o ++ [[.int .u32 (z : Int)]] := by simp [lm]
theorem c_ToN {x : Nat} (hx : sz x ≤ 100000000) : Does Tryz.prog 96 [.one (nd x)] [lr (limbs x)] := by
  have hlx := limbs_len hx
  refine fnD Tryz.func96 rfl ?_
  refine go tt [.o 3 169 1] rfl trivial ?_
  refine lp (S := Nat × List Nat) 1 (fun L1 s => (0, .v (.one (nd s.1))) :: (3, .v (.one (.orow 0 1 none))) :: L1) (fun s => [.row false 169 1 (lm s.2)]) (fun s => s.1) (fun s => limbs x = s.2 ++ limbs s.1 ∧ s.1 ≤ x) (x, []) ⟨rfl, Nat.le_refl _⟩ rfl (fun _ _ => rfl) rfl fun ⟨y, o⟩ ⟨j1, j2⟩ => ?_
  dsimp only at j1 j2 ⊢
  by_cases h0 : y = 0
  · subst h0
    rw [limbs_zero, List.append_nil] at j1
    rw [j1]
    exact en tt [.f (by simp [dcs_zero])] rfl rfl trivial
  · have hs := limbs_snoc j1 h0
    have hsy : sz y ≤ 100000000 := Nat.le_trans (sz_mono j2) hx
    have c1 := c_small (x := y) (kd := 65536) hsy (by decide)
    have c2 := c_small (x := y / 65536) (kd := 65536) (Nat.le_trans (sz_div _ _) hsy) (by decide)
    have hl : (dcs y).length ≠ 0 := fun h => h0 (dcs_nil.1 h)
    have ol : o.length ≤ (limbs x).length := by rw [j1]; simp
    have e : y / 65536 % 65536 * 65536 + y % 65536 = y % 4294967296 := by omega
    have e2 : y / 65536 / 65536 = y / 4294967296 := by omega
    refine go tt [.t (by simp; omega), .c [] c1, .c [] c2, .r 26 (e32 (b := ((y % 4294967296 : Nat) : Int)) (by omega)), .s (sz := 1) (l := [[.int .u32 ((y % 4294967296 : Nat) : Int)]]) (fun c hc => by rw [List.mem_singleton.1 hc]; rfl)] rfl (by simp [AllP, lm_len]; omega) ?_
    rw [← e2] at hs
    exact rd (y / 65536 / 65536, o ++ [y % 4294967296]) (by dsimp only; omega) ⟨hs, by dsimp only; omega⟩ (by rw [lm_snoc]; rfl)
/-- a whole number of the reference -/
abbrev ri (z : Int) : List LV := [nd z.natAbs, sg z]
theorem ri_mk (b : Bool) (m : Nat) : [nd m, LV.bool (b && decide (0 < m))] = ri (ofSign b m) := by
  simp only [ri, sg, ofSign_natAbs, ofSign_neg]
theorem nd_len (x : Nat) : (0 < (dcs x).length) ↔ 0 < x := by
  have := dcs_nil (x := x); omega
theorem c_fmade (b : Bool) (m : Nat) : Does Tryz.prog 97 [.one (nd m), .one (.bool b)] [.agg (ri (ofSign b m))] := by
  rw [← ri_mk]
  have e := nd_len m
  cases b with
  | false => exact w tt Tryz.func97 rfl [.g 7 false rfl] rfl rfl trivial
  | true => exact w tt Tryz.func97 rfl [.g 7 true rfl] rfl (by simp [e]) trivial
theorem c_fZero {z : Int} : Does Tryz.prog 139 [.agg (ri z)] [.one (.bool (decide (z = 0)))] :=
  w tt Tryz.func139 rfl [] rfl (by have h := dcs_nil (x := z.natAbs); simp only [dlm_len]; congr 3; rw [decide_eq_decide]; omega) trivial
theorem c_To {z : Int} (hz : isz z ≤ 100000000) : Does Tryz.prog 46 [.agg (ri z)] [.agg (ofI z)] :=
  w tt Tryz.func46 rfl [.c [] (c_ToN hz)] rfl rfl trivial
theorem eBo {a b : Bool} (h : a = b) : TV.one (LV.bool a) = .one (.bool b) := h ▸ rfl
theorem dlm_app (l : List Nat) (x : Nat) : dlm (l ++ [x]) = dlm l ++ [[.int .i64 (x : Int)]] := by simp [dlm]
theorem dcs_snoc {x y : Nat} {o : List Nat} (h : dcs x = o ++ dcs y) (h0 : y ≠ 0) : dcs x = (o ++ [y % 10000]) ++ dcs (y / 10000) := by
  rw [h, dcs_pos h0]; simp
theorem c_fOf' {b : Bool} {x : Nat} (hx : x ≤ 4000000000000000000) (hb : b = true → 0 < x) : Does Tryz.prog 49 [.one (.int .i64 (ofSign b x))] [.agg (ri (ofSign b x))] := by
  have hl : (dcs x).length ≤ 100 := by
    have := dcs_len x
    have h2 : sz x ≤ 64 := sz_le.2 (by omega)
    omega
  have hm := c_fmade b x
  refine fnD Tryz.func49 rfl ?_
  cases b with
  | false =>
    show AK Tryz.prog _ _ _ (argsA 0 [.one (.int .i64 (x : Int))]) []
    refine go tt [.f (by simp <;> omega), .r 3 (eBo (b := false) (by simp)), .f rfl, .o 4 3 1] rfl trivial ?_
    refine lp (S := Nat × List Nat) 2 (fun L1 s => (0, .v (.one (.int .i64 (s.1 : Int)))) :: (4, .v (.one (.orow 1 1 none))) :: L1) (fun s => [.blk 47 [.nils, .bool false], .row false 3 1 (dlm s.2)]) (fun s => s.1) (fun s => dcs x = s.2 ++ dcs s.1 ∧ s.1 ≤ x) (x, []) ⟨rfl, Nat.le_refl _⟩ rfl (fun _ _ => rfl) rfl fun ⟨y, o⟩ ⟨j1, j2⟩ => ?_
    dsimp only at j1 j2 ⊢
    by_cases h0 : y = 0
    · subst h0
      rw [dcs_zero, List.append_nil] at j1
      rw [← j1]
      exact en tt [.f (by simp), .c [] hm] rfl rfl trivial
    · have hs := dcs_snoc j1 h0
      have ol : o.length ≤ (dcs x).length := by rw [j1]; simp
      refine go tt [.t (by simp; omega), .r 18 (eI (b := ((y % 10000 : Nat) : Int)) (by rfl)), .s (sz := 1) (l := [[.int .i64 ((y % 10000 : Nat) : Int)]]) (fun c hc => by rw [List.mem_singleton.1 hc]; rfl), .r 22 (eI (b := ((y / 10000 : Nat) : Int)) (by rfl))] rfl (by simp [AllP, dlm_len]; omega) ?_
      exact rd (y / 10000, o ++ [y % 10000]) (by dsimp only; omega) ⟨hs, by dsimp only; omega⟩ (by rw [dlm_app]; rfl)
  | true =>
    show AK Tryz.prog _ _ _ (argsA 0 [.one (.int .i64 (-(x : Int)))]) []
    refine go tt [.f (by simp <;> omega), .r 3 (eBo (b := true) (by simpa using hb rfl)), .t rfl, .r 0 (eI (b := (x : Int)) (by omega)), .o 4 3 1] rfl (by simp [AllP]; omega) ?_
    refine lp (S := Nat × List Nat) 2 (fun L1 s => (0, .v (.one (.int .i64 (s.1 : Int)))) :: (4, .v (.one (.orow 1 1 none))) :: L1) (fun s => [.blk 47 [.nils, .bool false], .row false 3 1 (dlm s.2)]) (fun s => s.1) (fun s => dcs x = s.2 ++ dcs s.1 ∧ s.1 ≤ x) (x, []) ⟨rfl, Nat.le_refl _⟩ rfl (fun _ _ => rfl) rfl fun ⟨y, o⟩ ⟨j1, j2⟩ => ?_
    dsimp only at j1 j2 ⊢
    by_cases h0 : y = 0
    · subst h0
      rw [dcs_zero, List.append_nil] at j1
      rw [← j1]
      exact en tt [.f (by simp), .c [] hm] rfl rfl trivial
    · have hs := dcs_snoc j1 h0
      have ol : o.length ≤ (dcs x).length := by rw [j1]; simp
      refine go tt [.t (by simp; omega), .r 18 (eI (b := ((y % 10000 : Nat) : Int)) (by rfl)), .s (sz := 1) (l := [[.int .i64 ((y % 10000 : Nat) : Int)]]) (fun c hc => by rw [List.mem_singleton.1 hc]; rfl), .r 22 (eI (b := ((y / 10000 : Nat) : Int)) (by rfl))] rfl (by simp [AllP, dlm_len]; omega) ?_
      exact rd (y / 10000, o ++ [y % 10000]) (by dsimp only; omega) ⟨hs, by dsimp only; omega⟩ (by rw [dlm_app]; rfl)
theorem c_fOf {n : Int} (hn : -4000000000000000000 ≤ n ∧ n ≤ 4000000000000000000) : Does Tryz.prog 49 [.one (.int .i64 n)] [.agg (ri n)] := by
  have e : ofSign (decide (n < 0)) n.natAbs = n := by unfold ofSign; by_cases h : n < 0 <;> simp [h] <;> omega
  have h := c_fOf' (b := decide (n < 0)) (x := n.natAbs) (by omega) (fun h => by have := of_decide_eq_true h; omega)
  rwa [e] at h
end Orr

namespace Orr
open Go Go.Proofs
set_option maxRecDepth 10000
abbrev fr (q : Rat) : List LV := ri q.num ++ ri (q.den : Int)
theorem dcs_one : dcs 1 = [1] := by rw [dcs_pos (by decide)]; rw [dcs_zero]
theorem c_fMake1 {n : Int} : Does Tryz.prog 83 [.agg (ri n), .agg (ri 1)] [.agg (fr (n : Rat))] := by
  have h0 : (dlm (dcs (1 : Int).natAbs))[0]? = some [LV.int .i64 1] := by rw [show (1 : Int).natAbs = 1 from rfl, dcs_one]; rfl
  have h1 : decide (((dlm (dcs (1 : Int).natAbs)).length : Int) = 1) = true := by rw [show (1 : Int).natAbs = 1 from rfl, dcs_one]; rfl
  exact w tt Tryz.func83 rfl [.c [] (c_fZero (z := 1)), .f rfl, .f rfl, .g 19 true h1, .x h0, .t rfl] rfl rfl trivial
theorem c_OfR1 {n : Int} (hn : -4000000000000000000 ≤ n ∧ n ≤ 4000000000000000000) : Does Tryz.prog 22 [.one (.int .i64 n), .one (.int .i64 1)] [.agg (fr (n : Rat))] :=
  w tt Tryz.func22 rfl [.c [] (c_fOf hn), .c [] (c_fOf (n := 1) (by decide)), .c [] c_fMake1] rfl rfl trivial
theorem c_ToR {q : Rat} (hq : Qs 100000000 q) : Does Tryz.prog 21 [.agg (fr q)] [.agg (rl q)] :=
  w tt Tryz.func21 rfl [.c [] (c_To hq.1), .c [] (c_To hq.2)] rfl rfl trivial
end Orr

namespace Orr
open Go Go.Proofs Orq
set_option maxRecDepth 10000
theorem goF_br {Bc : Tm → List Ct} {Br : Tm → List (List LV)} {t : Rat} : ∀ {k : Nat} {c c' : Cr} {r r' : List (List LV)} {n n' : Int}, goF Bc Br t k c r n = some (c', r', n') → r' = r ∨ ∃ a, r' = Br a
  | 0, _, _, _, _, _, _, h => by cases h
  | k + 1, c, c', r, r', n, n', h => by
    simp only [goF] at h
    obtain ⟨ws, _, h⟩ := Option.bind_eq_some_iff.1 h
    obtain ⟨o, _, h⟩ := Option.bind_eq_some_iff.1 h
    cases o with
    | none => injection h with h; injection h with _ h; injection h with h _; exact .inl h.symm
    | some a =>
      dsimp only at h
      split at h
      · injection h with h; injection h with _ h; injection h with h _; exact .inl h.symm
      · obtain ⟨w2, _, h⟩ := Option.bind_eq_some_iff.1 h
        rcases goF_br h with e | e
        · exact .inr ⟨a, e⟩
        · exact .inr e
abbrev wkP : List Pt := [⟨run1, 1⟩, ⟨still 1 0, 2⟩]
def lastI (l : List LV) : Int := match l with
  | [_, _, _, _, .int _ z] => z
  | _ => 0
theorem lastI_pt (l : List Pt) : (ptrow l).map lastI = l.map (·.id) := by
  simp only [ptrow, List.map_map]; rfl
theorem wk_go : (goF (bcS wkP) (brS wkP) 1 5 (begS wkP (tq 0)) (brS wkP (tq 0)) 0).map (fun x => (x.2.1.map lastI, x.2.2)) = some ([2, 1], 1) := by decide +kernel
theorem wk_row : (rowA (tq 0) wkP).map (·.id) = [1, 2] := by decide +kernel
theorem sc_run1 : Sc run1 := ⟨nml_run1, cs_run1.up (by decide) (by decide)⟩
theorem wk_sc : ∀ p ∈ wkP, Sc p.c := fun p hp => by
  rcases List.mem_cons.1 hp with rfl | hp
  · exact sc_run1
  · rw [List.mem_singleton.1 hp]; exact sc_still (by decide) (by decide)
theorem d_wakes18 : Does Tryz.prog 45 [] [.one (.bool true)] := by
  have hq : Qs 900 (ratOf 0 0) := ⟨by decide, by decide⟩
  have ez : ratOf 0 0 = 0 := by decide
  have zp : IsPts 4294967294 1073741824 (ptrow wkP) wkP := isPts_n fun p hp => (wk_sc p hp).pt
  have hnl : newL [] wkP = (wkP, 0) := rfl
  have cn := c_SoNew (qs := wkP) zp (by decide) hnl wk_sc (by decide) isInt_zero isInt_zero (by decide) (by decide) hq
  rw [ez] at cn
  have ci := c_SIds (c := begS wkP (tq 0)) (l := wkP) (s := rowA (tq 0) wkP) (by rw [rowA_len]; decide)
  rw [wk_row] at ci
  have cs := c_Same (a := [1, 2]) (b := [1, 2]) (by decide) (by decide)
  have cs2 := c_Same (a := [2, 1]) (b := [2, 1]) (by decide) (by decide)
  obtain ⟨x, hx, hx2⟩ := Option.map_eq_some_iff.1 wk_go
  obtain ⟨c', r', n'⟩ := x
  injection hx2 with h3 h4
  dsimp only at h3 h4
  subst h4
  obtain ⟨s, hs, hsl⟩ : ∃ s, r' = ptrow s ∧ s.length ≤ 1000000 := by
    rcases goF_br hx with e | ⟨a, e⟩
    · exact ⟨_, e, by rw [rowA_len]; decide⟩
    · exact ⟨_, e, by rw [rowA_len]; decide⟩
  subst hs
  rw [lastI_pt] at h3
  have hB := bcS_ok wk_sc (by decide)
  have hv : Va (tq 0) := va_q (by rw [← ez]; exact hq)
  have hc : CrOk (begS wkP (tq 0)) := ⟨hv, fun w hw => by
      obtain ⟨x, hx, rfl⟩ := List.mem_map.1 hw
      exact ⟨hB.p _ hv x (sortC_mem hx), fun t ht => by cases ht⟩, by
      show ((sortC (bcS wkP (tq 0))).map fresh).length ≤ 1000
      rw [List.length_map, sortC_len]; exact hB.n _ hv⟩
  have ca := c_SAdv (t := 1) ⟨by decide, by decide⟩ wk_sc (by decide) hc ⟨by decide, by decide⟩ (by decide +kernel) hx
  have ci2 := c_SIds (c := c') (l := wkP) (s := s) hsl
  rw [h3] at ci2
  have co := c_OfR1 (n := 1) (by decide)
  have ct := c_ToR (q := 1) ⟨by decide, by decide⟩
  refine fnD Tryz.func45 rfl ?_
  exact en tt [.z 6, .c [] c_Run1, .c [] (c_Still (by decide) (by decide)), .c [0] cn, .g 21 false rfl, .g 25 false rfl, .c [0] ci, .c [] cs, .f rfl, .c [] co, .c [] ct, .c [0] ca, .g 41 true rfl, .g 45 true rfl, .c [0] ci2, .c [] cs2] rfl rfl trivial
end Orr

namespace Orr
open Go Go.Proofs Orq
set_option maxRecDepth 10000
theorem c_SoNewE {zs : List (List LV)} {qs : List Pt} {x y x' y' : LV} {n d e : Int} (hz : IsPts 4294967294 1073741824 zs qs) (hq : qs.length ≤ 6) (hnl : (newL [] qs).2 = e) (he : e ≠ 0) (h1 : IsInt x y n) (h2 : IsInt x' y' d) :
    Does Tryz.prog 41 [.agg [x, y, x', y'], .one (.row zs)] [.one .nilp, .one (.int .i64 e)] := by
  have cn := c_New hz hq
  rw [hnl] at cn
  obtain ⟨b, l1, rfl, rfl, _⟩ := h1
  obtain ⟨b', l2, rfl, rfl, _⟩ := h2
  exact w tt Tryz.func41 rfl [.c [] cn, .t (by simpa using he)] rfl rfl trivial
theorem c_SoNewF {zs : List (List LV)} {qs : List Pt} {x y x' y' : LV} {n d : Int} (hz : IsPts 4294967294 1073741824 zs qs) (hq : 6 < qs.length) (h1 : IsInt x y n) (h2 : IsInt x' y' d) :
    Does Tryz.prog 41 [.agg [x, y, x', y'], .one (.row zs)] [.one .nilp, .one (.int .i64 9)] := by
  have cn := c_NewFull hz hq
  obtain ⟨b, l1, rfl, rfl, _⟩ := h1
  obtain ⟨b', l2, rfl, rfl, _⟩ := h2
  exact w tt Tryz.func41 rfl [.c [] cn, .t rfl] rfl rfl trivial
theorem c_SPutN {p : Pt} {c : Cr} {l : List Pt} {r1 : List (List LV)} {ws : List Wt} (hp : Sc p.c) (hll : l.length ≤ 900) (he : putE l p = 0) (hc : CrOk c) (hl : ∀ p ∈ l, Sc p.c) (h : layF' c.l c.now (sortC (bcS (put l p) c.now)) = some ws) :
    DoesD Tryz.prog 60 [.one (.ow 0 0), .agg (ofPt p)] [.blk 96 (crl c (ptrow l) r1)] [.one (.int .i64 0)] [.blk 96 (crl ⟨c.now, ws, c.ev⟩ (ptrow (put l p)) (brS (put l p) c.now))] := by
  have e : Crv.norm (Crv.mk p.c.x p.c.y p.c.d) = p.c := Crv.norm_of hp.n
  have hl' : ∀ q ∈ put l p, Sc q.c := fun q hq => by
    rcases put_mem hq with rfl | hq
    · exact hp
    · exact hl q hq
  have := c_SPut (id := p.id) (c := c) (l := l) (r1 := r1) (ws := ws) (isInts_n p.c.x) (isInts_n p.c.y) (isInt_n p.c.d) (hp.c.mono (by decide) (by decide)) hll (by rw [e]; exact he) hc (by rw [e]; exact hl') (by rw [e]; show (put l p).length ≤ 1000; rw [put_len]; omega) (by rw [e]; exact h)
  rw [e] at this
  exact this
theorem npts_snoc' (zs : List (List LV)) (i : Nat) : ptrow (npts zs (i + 1)) = ptrow (npts zs i) ++ [ofPt (npt zs i)] := npts_snoc zs i
theorem npts_rlen (zs : List (List LV)) (n : Nat) : (ptrow (npts zs n)).length = n := by rw [rp_len, npts_len]
theorem begS_ok {l : List Pt} {a : Tm} (hl : ∀ p ∈ l, Sc p.c) (hn : l.length ≤ 1000) (ha : Va a) : CrOk (begS l a) := by
  have hB := bcS_ok hl hn
  refine ⟨ha, fun w hw => ?_, ?_⟩
  · obtain ⟨x, hx, rfl⟩ := List.mem_map.1 hw
    exact ⟨hB.p _ ha x (sortC_mem hx), fun t ht => by cases ht⟩
  · show ((sortC (bcS l a)).map fresh).length ≤ 1000
    rw [List.length_map, sortC_len]; exact hB.n _ ha
theorem d_law18_News {zs : List (List LV)} {n : Int} (hz : Named zs) (hn : -9223372036854775808 ≤ n ∧ n ≤ 9223372036854775807) : Does Tryz.prog 11 [.one (.row zs), .one (.int .i64 n)] [.one (.bool true)] := by
  have hw0 : wthn n 9 = n % 9 := rfl
  obtain ⟨N, hN⟩ : ∃ N : Nat, wthn n 9 = (N : Int) := ⟨(n % 9).toNat, by rw [hw0]; omega⟩
  have hN8 : N ≤ 8 := by omega
  have cw := c_Within (v := n) (n := 9) hn (by decide)
  rw [hN] at cw
  refine fnD Tryz.func11 rfl (ln 0 rfl rfl fun hzl => ?_)
  refine go tt [.c [] cw, .o 5 35 5] rfl trivial ?_
  refine lp (S := Nat) 1 (fun L1 i => (6, .v (.one (.int .i64 (i : Int)))) :: (5, .v (.one (.orow 0 5 none))) :: L1) (fun i => [.row false 35 5 (ptrow (npts zs i))]) (fun i => N - i) (fun i => i ≤ N ∧ i ≤ zs.length) 0 ⟨Nat.zero_le _, Nat.zero_le _⟩ rfl (fun _ _ => rfl) rfl fun i ⟨hi, hil⟩ => ?_
  have hpl := npts_rlen zs
  by_cases hlt : i < zs.length ∧ i < N
  · obtain ⟨h1, h2⟩ := hlt
    obtain ⟨x0, x1, x2, x3, id, e, b1, b2⟩ := hz zs[i] (List.getElem_mem h1)
    have hx : zs[i]? = some [x0, x1, x2, x3, .int .i64 id] := by rw [List.getElem?_eq_getElem h1, e]
    have hii : i * i ≤ 8 * 8 := Nat.mul_le_mul (by omega) (by omega)
    have cst := c_Still (x := (i : Int)) (y := ((i * i : Nat) : Int)) (by omega) (by omega)
    have c40 := c_Within (v := id) (n := 40) ⟨b1, b2⟩ (by decide)
    have hpt : ofPt (npt zs i) = cl (still (i : Int) ((i * i : Nat) : Int)) ++ [.int .i64 (wthn id 40)] := by
      rw [npt_in h1, e]; rfl
    have hm : ∀ y ∈ [cl (still (i : Int) ((i * i : Nat) : Int)) ++ [.int .i64 (wthn id 40)]], y.length = 5 := fun y hy => by rw [List.mem_singleton.1 hy]; rfl
    have hg := npts_snoc' zs i
    rw [hpt] at hg
    refine go tt [.g 19 true (by simpa using h1), .t (by simpa using h2), .r 30 (eI (b := ((i * i : Nat) : Int)) (by simp)), .c [] cst, .x hx, .c [] c40, .s (sz := 5) hm] rfl (by simp [AllP, hpl]; omega) ?_
    exact rd (i + 1) (by omega) ⟨h2, h1⟩ (by rw [hg]; rfl)
  have hout : i < N → zs.length ≤ i := fun h => by omega
  have hcase : ¬ i < zs.length ∨ i < zs.length ∧ ¬ i < N := by omega
  clear hlt
  rcases hcase with h1 | h1
  all_goals
    first
      | refine go tt [.g 19 false (by simpa using h1), .f rfl, .r 42 (eI (b := (i : Int)) (by rw [hpl]))] rfl trivial ?_
      | refine go tt [.g 19 true (by simpa using h1.1), .f (by simpa using h1.2), .r 42 (eI (b := (i : Int)) (by rw [hpl]))] rfl trivial ?_
    refine lp (S := Nat) 1 (fun L1 j => (7, .v (.one (.int .i64 (j : Int)))) :: (5, .v (.one (.orow 0 5 none))) :: L1.filter (fun x => x.1 != 41)) (fun j => [.row false 35 5 (ptrow (npts zs j))]) (fun j => N - j) (fun j => i ≤ j ∧ j ≤ N) i ⟨Nat.le_refl _, hi⟩ rfl (fun _ _ => rfl) rfl fun j ⟨hij, hj⟩ => ?_
    by_cases hlt : j < N
    · have hjo : ¬ j < zs.length := by omega
      have hii : j * j ≤ 8 * 8 := Nat.mul_le_mul (by omega) (by omega)
      have cst := c_Still (x := (j : Int)) (y := -((j * j : Nat) : Int)) (by omega) (by omega)
      have hpt : ofPt (npt zs j) = cl (still (j : Int) (-((j * j : Nat) : Int))) ++ [.int .i64 ((100 + j : Nat) : Int)] := by
        rw [npt_out hjo]; rfl
      have hm : ∀ y ∈ [cl (still (j : Int) (-((j * j : Nat) : Int))) ++ [.int .i64 ((100 + j : Nat) : Int)]], y.length = 5 := fun y hy => by rw [List.mem_singleton.1 hy]; rfl
      have hg := npts_snoc' zs j
      rw [hpt] at hg
      refine go tt [.t (by simpa using hlt), .r 53 (eI (b := -((j * j : Nat) : Int)) (by simp [Int.neg_mul])), .c [] cst, .r 56 (eI (b := ((100 + j : Nat) : Int)) (by simp)), .s (sz := 5) hm] rfl (by simp [AllP, hpl, Int.neg_mul]; omega) ?_
      exact rd (j + 1) (by omega) ⟨by omega, hlt⟩ (by rw [hg]; rfl)
    obtain rfl : j = N := by omega
    have zp := isPts_n (s := 4294967294) (n := 1073741824) fun p hp => (npts_sc (zs := zs) hN8 p hp).pt
    by_cases h6 : 6 < j
    · have cf := c_SoNewF zp (by rw [npts_len]; exact h6) isInt_zero isInt_zero
      exact en tt [.f (by simp), .c [] cf, .t (by simp [hpl]; omega), .g 71 true rfl, .g 75 true rfl, .c [] d_wakes18] rfl rfl trivial
    have hq6 : (npts zs j).length ≤ 6 := by rw [npts_len]; omega
    have hpw := npts_pw zs j
    rcases newL_news hq6 with ⟨e1, e2, e3, e4⟩ | ⟨e1, e2⟩
    · obtain ⟨l0, hl0⟩ : ∃ l, l = (newL [] (npts zs j)).1 := ⟨_, rfl⟩
      have hnl : newL [] (npts zs j) = (l0, 0) := by rw [hl0, ← e1]
      rw [← hl0] at e2 e3
      have hmem : ∀ p ∈ l0, p ∈ npts zs j := fun p hp => by
        rw [hl0] at hp
        rcases newL_mem _ _ hp with h | h
        · exact h
        · cases h
      have hsc : ∀ p ∈ l0, Sc p.c := fun p hp => npts_sc hN8 p (hmem p hp)
      have hq : Qs 900 (ratOf 0 0) := ⟨by decide, by decide⟩
      have hl0n : l0.length ≤ 1000 := by rw [e3, npts_len]; omega
      have cn := c_SoNew zp hq6 hnl hsc hl0n isInt_zero isInt_zero (by decide) (by decide) hq
      rw [show ratOf 0 0 = 0 by decide] at cn
      have hv : Va (tq 0) := va_q (by rw [show (0 : Rat) = ratOf 0 0 by decide]; exact hq)
      have hok := begS_ok hsc hl0n hv
      refine go tt [.f (by simp), .c [1] cn, .f (by simp [hpl]; omega)] rfl trivial ?_
      refine lp (S := Nat) 2 (fun L1 a => (80, .v (.one (.int .i64 (a : Int)))) :: L1) (fun _ => [.gone, .blk 96 (crl (begS l0 (tq 0)) (ptrow l0) (brS l0 (tq 0)))]) (fun a => j - a) (fun a => a ≤ j) 0 (Nat.zero_le _) rfl (fun _ _ => rfl) rfl fun a ha => ?_
      by_cases hlt : a < j
      · refine go tt [.t (by simp [hpl]; omega)] rfl trivial ?_
        refine lp (S := Nat) 2 (fun L1 b => (11, .v (.one (.int .i64 (b : Int)))) :: L1) (fun _ => [.gone, .blk 96 (crl (begS l0 (tq 0)) (ptrow l0) (brS l0 (tq 0)))]) (fun b => a - b) (fun b => b ≤ a) 0 (Nat.zero_le _) rfl (fun _ _ => rfl) rfl fun b hb => ?_
        by_cases hltb : b < a
        · have g1 := rp_get (npts_get (zs := zs) (n := j) (k := b) (by omega))
          have g2 := rp_get (npts_get (zs := zs) (n := j) (k := a) hlt)
          have he := hpw.1 e4 b a hltb hlt
          refine go tt [.t (by simpa using hltb), .x g1, .x g2, .f (by simpa using he)] rfl (by simp [AllP]; omega) ?_
          exact rd (b + 1) (by omega) hltb rfl
        · obtain rfl : b = a := by omega
          refine go tt [.f (by simp)] rfl (by simp [AllP]; omega) ?_
          exact rd (b + 1) (by omega) hlt rfl
      · obtain rfl : a = j := by omega
        refine go tt [.f (by simp [hpl]), .g 111 false rfl, .f rfl, .r 116 (eI (b := (a : Int)) (by rw [hpl]))] rfl trivial ?_
        refine lp (S := Nat × Cr × List Pt) 2 (fun L1 s => (12, .v (.one (.int .i64 (s.1 : Int)))) :: L1) (fun s => [.gone, .blk 96 (crl s.2.1 (ptrow s.2.2) (brS s.2.2 s.2.1.now))]) (fun s => 6 - s.1) (fun s => s.1 ≤ 6 ∧ CrOk s.2.1 ∧ SortedP s.2.2 ∧ s.2.2.length = s.1 ∧ (∀ p ∈ s.2.2, p.id < 200 + (s.1 : Int)) ∧ ∀ p ∈ s.2.2, Sc p.c) (a, begS l0 (tq 0), l0) ⟨by omega, hok, e2, by rw [e3, npts_len], fun p hp => by have := npts_id hN8 p (hmem p hp); show p.id < 200 + (a : Int); omega, hsc⟩ rfl (fun _ _ => rfl) rfl fun ⟨m, c, l⟩ ⟨k1, k2, k3, k4, k5, k6⟩ => ?_
        dsimp only at k1 k2 k3 k4 k5 k6 ⊢
        by_cases hm : m < 6
        · have hpe := put_new (c := still 0 0) (x := ((200 + m : Nat) : Int)) k3 (by omega) (fun p hp => by have := k5 p hp; omega)
          have hs0 : Sc (still 0 0) := sc_still (by decide) (by decide)
          obtain ⟨ws, w1, w2⟩ := lay_ex k2.n k2.l (sortC (bcS (put l ⟨still 0 0, ((200 + m : Nat) : Int)⟩) c.now))
          have hl' : ∀ q ∈ put l ⟨still 0 0, ((200 + m : Nat) : Int)⟩, Sc q.c := fun q hq => by
            rcases put_mem hq with rfl | hq
            · exact hs0
            · exact k6 q hq
          have hln : (put l ⟨still 0 0, ((200 + m : Nat) : Int)⟩).length = m + 1 := by rw [put_len, k4]
          have hB := bcS_ok hl' (by omega)
          have cp := c_SPutN (p := ⟨still 0 0, ((200 + m : Nat) : Int)⟩) (r1 := brS l c.now) hs0 (by omega) hpe k2 k6 w1
          refine go tt [.t (by simp; omega), .c [] (c_Still (by decide) (by decide)), .r 124 (eI (b := ((200 + m : Nat) : Int)) (by simp)), .c [1] cp, .f rfl] rfl (by simp [AllP]; omega) ?_
          exact rd (m + 1, ⟨c.now, ws, c.ev⟩, put l ⟨still 0 0, ((200 + m : Nat) : Int)⟩) (by dsimp only; omega) ⟨hm, lay_ok _ k2 k2.n (hB.p _ k2.n) (hB.n _ k2.n) w1, put_sorted k3 (has_new k3 fun p hp => by have := k5 p hp; show p.id < ((200 + m : Nat) : Int); omega), hln, fun p hp => by
            rcases put_mem hp with rfl | hp
            · show ((200 + m : Nat) : Int) < 200 + ((m + 1 : Nat) : Int); omega
            · have := k5 p hp; show p.id < 200 + ((m + 1 : Nat) : Int); omega, hl'⟩ rfl
        · obtain rfl : m = 6 := by omega
          have hpe := put_full (c := Crv.norm (Crv.mk [] [] 0)) (x := 300) k3 k4 (fun p hp => by have := k5 p hp; omega)
          have cp := c_SPutE (c := c) (l := l) (r1 := brS l c.now) (lx := []) (ly := []) (px := []) (py := []) (x := .bool false) (y := .row []) (d := 0) (id := 300) trivial trivial isInt_zero cs_nil (by omega) hpe (by decide)
          have cs := c_SPoints (c := c) (l := l) (s := rowA c.now l) (fun p hp => (k6 p hp).pt) (by omega)
          exact en tt [.f rfl, .c [1] cp, .g 132 true rfl, .c [1] cs, .g 138 true (by simp [rp_len, k4]), .c [] d_wakes18] rfl rfl trivial
    · have cf := c_SoNewE zp hq6 e1 (by decide) isInt_zero isInt_zero
      refine go tt [.f (by simp), .c [] cf, .f (by simp [hpl]; omega)] rfl trivial ?_
      refine lp (S := Nat) 1 (fun L1 a => (80, .v (.one (.int .i64 (a : Int)))) :: L1) (fun _ => [.gone]) (fun a => j - a) (fun a => a ≤ j ∧ ∀ x y, x < y → y < a → (npt zs x).id ≠ (npt zs y).id) 0 ⟨Nat.zero_le _, fun x y _ h => by omega⟩ rfl (fun _ _ => rfl) rfl fun a ⟨ha, hd⟩ => ?_
      by_cases hlt : a < j
      · refine go tt [.t (by simp [hpl]; omega)] rfl trivial ?_
        refine lp (S := Nat) 1 (fun L1 b => (11, .v (.one (.int .i64 (b : Int)))) :: L1) (fun _ => [.gone]) (fun b => a - b) (fun b => b ≤ a ∧ ∀ x, x < b → (npt zs x).id ≠ (npt zs a).id) 0 ⟨Nat.zero_le _, fun x h => by omega⟩ rfl (fun _ _ => rfl) rfl fun b ⟨hb, hd2⟩ => ?_
        by_cases hltb : b < a
        · have g1 := rp_get (npts_get (zs := zs) (n := j) (k := b) (by omega))
          have g2 := rp_get (npts_get (zs := zs) (n := j) (k := a) hlt)
          by_cases he : (npt zs b).id = (npt zs a).id
          · exact en tt [.t (by simpa using hltb), .x g1, .x g2, .t (by simpa using he), .g 101 true rfl, .g 105 true rfl, .c [] d_wakes18] rfl rfl trivial
          · refine go tt [.t (by simpa using hltb), .x g1, .x g2, .f (by simpa using he)] rfl (by simp [AllP]; omega) ?_
            exact rd (b + 1) (by omega) ⟨hltb, fun x hx => by
              rcases Nat.lt_or_eq_of_le (Nat.le_of_lt_succ hx) with h | h
              · exact hd2 x h
              · rw [h]; exact he⟩ rfl
        · obtain rfl : b = a := by omega
          refine go tt [.f (by simp)] rfl (by simp [AllP]; omega) ?_
          exact rd (b + 1) (by omega) ⟨hlt, fun x y hxy hy => by
            rcases Nat.lt_or_eq_of_le (Nat.le_of_lt_succ hy) with h | h
            · exact hd x y hxy h
            · rw [h]; rw [h] at hxy; exact hd2 x hxy⟩ rfl
      · obtain rfl : a = j := by omega
        exact absurd (hpw.2 hd) e2
end Orr

namespace Orr
open Go Go.Proofs
variable {H : Type} {enc : TypeId × Value → H} {w : World} {base : Nat} {spare : Nat → Bool} {held : Bool}
theorem slice_one {P : Program} {t e fuel : Nat} {cs : List Value} {x : DataW H × List MemPlace} (ht : P.underlying t = some (.slice e)) (h : DataW.trod enc P w base spare held fuel t cs = some x) : ∃ v, cs = [v] ∧ one v = true := by
  rcases DataW.trod_slice ht h with ⟨rfl, _⟩ | ⟨a, len, cap, _, _, _, _, rfl, _⟩
  · exact ⟨_, rfl, rfl⟩
  · exact ⟨_, rfl, rfl⟩
theorem get_some {α : Type} {l : List α} {n i : Nat} (h : l.length = n) (hi : i < n) : ∃ x, l[i]? = some x := ⟨l[i]'(by omega), List.getElem?_eq_getElem (by omega)⟩
set_option maxRecDepth 20000 in
theorem pt_read {fuel : Nat} {cs : List Value} {x : DataW H × List MemPlace} (h : DataW.trod enc Tryz.prog w base spare held fuel 35 cs = some x) :
    ∃ v0 v1 v2 v3 id, cs = [v0, v1, v2, v3, .int .i64 id] ∧ one v0 = true ∧ one v1 = true ∧ one v2 = true ∧ one v3 = true ∧ (Lit.int .i64 id).wf = true := by
  obtain ⟨xs, n, _, _, hl, hxs, hf⟩ := DataW.trod_struct Tryz.underlying35 h
  have hl : cs.length = 5 := hl
  match cs, hl with
  | [v0, v1, v2, v3, v4], _ =>
    obtain ⟨z, hz⟩ := get_some (i := 1) hxs (by decide)
    have h1 := hf 1 _ rfl
    rw [hz] at h1
    obtain ⟨id, e1, _, hw⟩ := DataW.trod_int Tryz.underlying3 h1
    have e1 : [v4] = [Value.int .i64 id] := e1
    injection e1 with e1
    subst e1
    obtain ⟨z, hz⟩ := get_some (i := 0) hxs (by decide)
    have h0 := hf 0 _ rfl
    rw [hz] at h0
    obtain ⟨ys, n2, _, _, _, hys, hg⟩ := DataW.trod_struct Tryz.underlying31 h0
    obtain ⟨z0, hz0⟩ := get_some (i := 0) hys (by decide)
    obtain ⟨z1, hz1⟩ := get_some (i := 1) hys (by decide)
    obtain ⟨z2, hz2⟩ := get_some (i := 2) hys (by decide)
    have g0 := hg 0 _ rfl
    have g1 := hg 1 _ rfl
    have g2 := hg 2 _ rfl
    rw [hz0] at g0; rw [hz1] at g1; rw [hz2] at g2
    obtain ⟨u0, e0, o0⟩ := slice_one Tryz.underlying26 g0
    obtain ⟨u1, e1, o1⟩ := slice_one Tryz.underlying26 g1
    obtain ⟨qs, n3, _, _, _, hqs, hk⟩ := DataW.trod_struct Tryz.underlying29 g2
    obtain ⟨z3, hz3⟩ := get_some (i := 0) hqs (by decide)
    obtain ⟨z4, hz4⟩ := get_some (i := 1) hqs (by decide)
    have k0 := hk 0 _ rfl
    have k1 := hk 1 _ rfl
    rw [hz3] at k0; rw [hz4] at k1
    obtain ⟨b, e2, _⟩ := DataW.trod_bool Tryz.underlying4 k0
    obtain ⟨u3, e3, o3⟩ := slice_one Tryz.underlying27 k1
    have a0 : v0 = u0 := (List.cons.inj (show [v0] = [u0] from e0)).1
    have a1 : v1 = u1 := (List.cons.inj (show [v1] = [u1] from e1)).1
    have a2 : v2 = .bool b := (List.cons.inj (show [v2] = [Value.bool b] from e2)).1
    have a3 : v3 = u3 := (List.cons.inj (show [v3] = [u3] from e3)).1
    subst a0 a1 a2 a3
    exact ⟨_, _, _, _, id, rfl, o0, o1, rfl, o3, hw⟩
end Orr

namespace Orr
open Go Go.Proofs Go.ChangeShapes Go.WideShapes Go.ChangeAt Go.RowKit Go.WideElems

theorem cell_at {w : World} {a : Addr} {v : Value} (h : w.cell? a = some v) : a.spot = none ∧ a.block < w.heap.size := by
  simp only [World.cell?] at h
  split at h
  · rename_i c t fr hc
    split at h
    · cases h
    · rename_i hs
      refine ⟨by cases e : a.spot with | none => rfl | some _ => simp [e] at hs, ?_⟩
      exact (Array.getElem?_eq_some_iff.1 hc).1
  · cases h
theorem add_add {a : Addr} (h : a.spot = none) (n m : Nat) : (a.add n).add m = ⟨a.block, a.off + n + m, none⟩ := by
  obtain ⟨b, o, s⟩ := a
  simp only at h
  subst h
  simp only [Addr.add]
  split
  · rename_i h; subst h
    split
    · rename_i h; subst h; simp
    · simp
  · split
    · rename_i h; subst h; simp
    · simp

/-- the frame of a law: all of the old memory stays -/
def fr0 (w : World) : Fr := ⟨fun b => b < w.heap.size, fun _ => False, w, fun _ => False, fun _ => none⟩
theorem hs0 (w : World) : HS (fr0 w) (ob []) (nw []) (fun _ => none) (fun _ => False) w where
  size := Nat.le_refl _
  kept := fun b hb => ⟨hb, rfl, Iff.rfl⟩
  ids := fun i h => h.elim
  nj := fun i h => by rw [ob_nil] at h; cases h
  io := ⟨rfl, rfl⟩
  blk := fun i => by rw [ob_nil]; trivial
  nk := fun i g c m h _ => by rw [ob_nil] at h; cases h
  inj := fun i j g c m c' m' h _ _ _ => by rw [ob_nil] at h; cases h
  mlt := fun b h => h.elim
  m0 := fun b _ h => h.elim
  un := fun i _ => ⟨rfl, rfl⟩
  uj := fun i _ h => h.elim
theorem same_of {w w' : World} {bl : Nat → OB} {U : Nat → Prop} {E : Env} {M : Nat → Prop} (h : HS (fr0 w) bl U E M w') {p : MemPlace} (hp : p.block < w.heap.size) : w.sameAt w' p := by
  cases p with
  | cell b off => simp only [World.sameAt, World.cell?]; rw [(h.kept b hp).2.1]; rfl
  | map b => exact (h.kept b hp).2.1
theorem kept_of {w w' : World} {bl : Nat → OB} {U : Nat → Prop} {E : Env} {M : Nat → Prop} (h : HS (fr0 w) bl U E M w') (may : MemPlace → Prop) : w.keptBut w' may := by
  refine ⟨h.io.1, h.io.2, fun i hi => ?_⟩
  have e : w'.heap[i]? = w.heap[i]? := (h.kept i hi).2.1
  rw [e]
  cases w.heap[i]? with
  | none => rfl
  | some o => cases o <;> simp

set_option maxRecDepth 20000 in
/-- a row of points, told with what is read of it: the names -/
theorem pts_read {H : Type} {enc : TypeId × Value → H} {w : World} {v : Value} {d : DataW H} {ps : List MemPlace} {ts : List TypeId} {ds : List (DataW H)} {base : Nat}
    (hval : Value.okWide Tryz.prog w .any base 24 v) (h : DataW.Trod enc Tryz.prog w 0 (fun _ => true) true 24 v d ps)
    (hz : (DataW.weightsEach Tryz.prog ts ds).all (· ≤ reachBytes) = true) (ht : ts[0]? = some 24) (hd : ds[0]? = some d) :
    ∃ zs, Named zs ∧ LRep w (fun _ => False) v (.row zs) := by
  obtain ⟨a, len, cap, rfl⟩ := okWide_slice Tryz.underlying24 hval
  obtain ⟨fu, h⟩ := h
  rcases Go.Deep.open_slice Tryz.underlying24 h with ⟨e, _⟩ | ⟨a', len', cap', m, n, D, Pl, e, _, hlc, hcap, hm, hx, hr⟩
  · simp only [Value.cells] at e
    have e : Value.slice a len cap = .slice none 0 0 := by simpa using e
    injection e with e1 e2 e3
    subst e1 e2 e3
    refine ⟨[], fun z hz => by simp at hz, ?_⟩
    exact LRep.row none 0 0 0 0 [] (fun _ _ => .bool true) (Nat.le_refl _) (by decide) (by simp) (by simp) (by simp) (by simp)
  · simp only [Value.cells] at e
    have e : Value.slice a len cap = .slice (some a') len' cap' := by simpa using e
    injection e with e1 e2 e3
    subst e1 e2 e3
    simp only [if_true] at hm
    subst hm
    have hd' : d = _ := congrArg Prod.fst hx
    subst hd'
    have hw := sized_slice hz ht hd Tryz.underlying24
    have hc5 : Tryz.prog.cellsOf 35 = 5 := by kernel_rfl
    have hb : 1 ≤ Tryz.prog.bytesOf 35 := of_decide_eq_true (by kernel_rfl)
    have hlen : len < 2 ^ 47 := by
      have h1 : len ≤ (len + (m - len)) * Tryz.prog.bytesOf 35 := by
        have := Nat.mul_le_mul (Nat.le_add_right len (m - len)) hb
        omega
      have h2 : (len + (m - len)) * Tryz.prog.bytesOf 35 ≤ reachBytes := by simpa using hw
      exact Nat.lt_of_le_of_lt (Nat.le_trans h1 h2) reachBytes_lt
    have hone : ∀ i, ∃ (g : Nat → Value) (id : Int), i < len → a'.spot = none ∧ a'.block < w.heap.size ∧
        (∀ j, j < 5 → w.cell? ⟨a'.block, a'.off + i * 5 + j, none⟩ = some (g j)) ∧ (∀ j, j < 4 → one (g j) = true) ∧ g 4 = .int .i64 id ∧ (Lit.int .i64 id).wf = true := by
      intro i
      by_cases hi : i < len
      · obtain ⟨cs, hcs, htr⟩ := hr i (by omega)
        rw [hc5] at hcs
        obtain ⟨_, hl, hcell⟩ := World.cells?_some hcs
        obtain ⟨v0, v1, v2, v3, id, rfl, o0, o1, o2, o3, hwf⟩ := pt_read htr
        have c0 := hcell 0 (by decide)
        have c1 := hcell 1 (by decide)
        have c2 := hcell 2 (by decide)
        have c3 := hcell 3 (by decide)
        have c4 := hcell 4 (by decide)
        have hsp : a'.spot = none := by
          by_cases h0 : i = 0
          · subst h0
            have : (a'.add (0 * 5)).add 0 = a' := by simp [Addr.add]
            rw [this] at c0
            exact (cell_at c0).1
          · obtain ⟨cs0, hcs0, htr0⟩ := hr 0 (by omega)
            rw [hc5] at hcs0
            obtain ⟨_, _, hcell0⟩ := World.cells?_some hcs0
            obtain ⟨u0, u1, u2, u3, _, rfl, _⟩ := pt_read htr0
            have c0 := hcell0 0 (by decide)
            have : (a'.add (0 * 5)).add 0 = a' := by simp [Addr.add]
            rw [this] at c0
            exact (cell_at c0).1
        rw [add_add hsp] at c0 c1 c2 c3 c4
        have hbl := (cell_at c0).2
        refine ⟨fun j => [v0, v1, v2, v3, .int .i64 id].getD j (.bool true), id, fun _ => ⟨hsp, hbl, ?_, ?_, rfl, hwf⟩⟩
        · intro j hj
          match j, hj with
          | 0, _ => simpa using c0
          | 1, _ => simpa using c1
          | 2, _ => simpa using c2
          | 3, _ => simpa using c3
          | 4, _ => simpa using c4
        · intro j hj
          match j, hj with
          | 0, _ => simpa using o0
          | 1, _ => simpa using o1
          | 2, _ => simpa using o2
          | 3, _ => simpa using o3
      · exact ⟨fun _ => .bool true, 0, fun h => absurd h hi⟩
    let G : Nat → Nat → Value := fun i => Classical.choose (hone i)
    have hG : ∀ i, ∃ id : Int, i < len → a'.spot = none ∧ a'.block < w.heap.size ∧
        (∀ j, j < 5 → w.cell? ⟨a'.block, a'.off + i * 5 + j, none⟩ = some (G i j)) ∧ (∀ j, j < 4 → one (G i j) = true) ∧ G i 4 = .int .i64 id ∧ (Lit.int .i64 id).wf = true := fun i => Classical.choose_spec (hone i)
    let I : Nat → Int := fun i => Classical.choose (hG i)
    have hI : ∀ i, i < len → a'.spot = none ∧ a'.block < w.heap.size ∧
        (∀ j, j < 5 → w.cell? ⟨a'.block, a'.off + i * 5 + j, none⟩ = some (G i j)) ∧ (∀ j, j < 4 → one (G i j) = true) ∧ G i 4 = .int .i64 (I i) ∧ (Lit.int .i64 (I i)).wf = true := fun i => Classical.choose_spec (hG i)
    let zs : List (List LV) := (List.range len).map fun i => [.any, .any, .any, .any, .int .i64 (I i)]
    have hzl : zs.length = len := by simp [zs]
    have hzg : ∀ i cs, zs[i]? = some cs → i < len ∧ cs = [.any, .any, .any, .any, .int .i64 (I i)] := by
      intro i cs h
      simp only [zs, List.getElem?_map] at h
      by_cases hi : i < len
      · rw [List.getElem?_range hi] at h
        simp at h
        exact ⟨hi, h.symm⟩
      · rw [List.getElem?_eq_none (by simp; omega)] at h
        cases h
    refine ⟨zs, ?_, ?_⟩
    · intro z hz
      obtain ⟨i, hi⟩ := List.mem_iff_getElem?.1 hz
      obtain ⟨hl, rfl⟩ := hzg i z hi
      have hwf := (hI i hl).2.2.2.2.2
      refine ⟨_, _, _, _, _, rfl, ?_⟩
      simpa [Lit.wf, IntKind.min, IntKind.max, IntKind.signed, IntKind.bits] using hwf
    · have key : LRep w (fun _ => False) (.slice (some a') zs.length m) (.row zs) := by
        refine LRep.row (some a') m 5 a'.block a'.off zs G (by omega) ?_ ?_ ?_ ?_ ?_
        · have : maxLen = 2 ^ 63 - 1 := by rfl
          omega
        · intro cs hcs
          obtain ⟨i, hi⟩ := List.mem_iff_getElem?.1 hcs
          obtain ⟨_, rfl⟩ := hzg i cs hi
          rfl
        · intro h0
          obtain ⟨hs, hb, _⟩ := hI 0 (by omega)
          refine ⟨?_, hb, by simp⟩
          obtain ⟨b, o, s⟩ := a'
          simp only at hs
          rw [hs]
        · intro i cs hi j hj
          obtain ⟨hl, rfl⟩ := hzg i cs hi
          exact (hI i hl).2.2.1 j hj
        · intro i cs hi j x hx
          obtain ⟨hl, rfl⟩ := hzg i cs hi
          obtain ⟨_, _, _, h4, h5, _⟩ := hI i hl
          match j, hx with
          | 0, hx => simp at hx; subst hx; exact .any _ (h4 0 (by decide))
          | 1, hx => simp at hx; subst hx; exact .any _ (h4 1 (by decide))
          | 2, hx => simp at hx; subst hx; exact .any _ (h4 2 (by decide))
          | 3, hx => simp at hx; subst hx; exact .any _ (h4 3 (by decide))
          | 4, hx => simp at hx; subst hx; rw [h5]; exact .int _ _
          | j + 5, hx => simp at hx
      rwa [hzl] at key

set_option maxRecDepth 20000 in
/-- a law of a row of points, of which only the names are read, and a number -/
theorem law_points {f : FuncId} {fn : Func} {s : ChangeSpec} (hp : fn.params = #[24, 3]) (hr : fn.resultTypes = #[4]) (hv : s.vars = [])
    (hs : ∀ (H : Type) (d1 d2 : DataW H), s.fn H [d1, d2] = { results := [.lit (.bool true)], args := [d1, d2] })
    (hlaid : laidOutB Tryz.prog = true) (hr22 : Tryz.prog.readableRec 24 = true) (hr3 : Tryz.prog.readableRec 3 = true) (hs22 : 24 < Tryz.prog.types.size) (hs3 : 3 < Tryz.prog.types.size)
    (law : ∀ (zs : List (List LV)) (n : Int), Named zs → (-2^63 ≤ n ∧ n ≤ 2^63-1) → Does Tryz.prog f [.one (.row zs), .one (.int .i64 n)] [.one (.bool true)])
    {H : Type} {enc : TypeId × Value → H} {W : World} {base : Nat} {args : Array Value} {ds gs : List (DataW H)} {before : List MemPlace} {fresh handsOn : Bool}
    (hval : ∀ (j : Nat) t v, fn.params[j]? = some t → args[j]? = some v → Value.okWide Tryz.prog W .any base t v)
    (hW : DataW.Whole enc Tryz.prog fn.params.toList s.vars false W args.toList ds gs before)
    (hz : (DataW.weightsEach Tryz.prog (fn.params.toList ++ s.plain.varTypes Tryz.prog) (ds ++ gs)).all (· ≤ reachBytes) = true) :
    Calls Tryz.prog f args W fun e W' => ∃ v, e = .returned v ∧ s.post enc Tryz.prog fn false fresh handsOn false W args v W' := by
  have hW' := hW
  obtain ⟨p, q, hA0, hV, rfl, hfz, hnd⟩ := hW
  have hA : DataW.TrodAll enc Tryz.prog W 0 (fun _ => true) true fn.params.toList args.toList ds p := hA0
  rw [hv] at hV
  obtain ⟨rfl, rfl⟩ := trodVars_none hV
  have hlt := hW'.lt
  rw [hp] at hA hval hz
  obtain ⟨v0, vs0, d0, ds0, p0, q0, hargs0, rfl, rfl, h0, r0⟩ := trodAll_cons hA
  obtain ⟨v1, vs1, d1, ds1, p1, q1, rfl, rfl, rfl, h1, r1⟩ := trodAll_cons r0
  obtain ⟨rfl, rfl, rfl⟩ := trodAll_nil r1
  obtain rfl : args = #[v0, v1] := by cases args; simp_all
  obtain ⟨n, rfl, rfl, rfl, w1⟩ := open_int Tryz.underlying3 (hval 1 3 v1 rfl rfl) h1
  obtain ⟨zs, hn, hrep⟩ := pts_read (hval 0 24 v0 rfl rfl) h0 hz rfl rfl
  have hn1 : -2^63 ≤ n ∧ n ≤ 2^63-1 := by simpa [Lit.wf, IntKind.min, IntKind.max, IntKind.signed, IntKind.bits] using w1
  have hcall := (law zs n hn hn1).2 (fr0 W) (fun _ => none) (fun _ => False) W [v0, .int .i64 n] (hs0 W) (.cons (show XRep W (fun _ => False) (fun _ => none) v0 (.row zs) from hrep.x) (.cons (show XRep W (fun _ => False) (fun _ => none) (.int .i64 n) (.int .i64 n) from (LRep.int .i64 n).x) .nil))
  refine hcall.mono fun e W' ⟨v, u, Bo, E', M', he, ⟨hu, hBo⟩, _, hm, har⟩ => ?_
  subst hu
  obtain rfl : v = .bool true := by
    have h : LRep _ _ v (.bool true) := har
    cases h
    rfl
  refine ⟨_, he, ?_⟩
  refine ⟨[d0, .lit (.int .i64 n)], [], _, [], p0 ++ ([] ++ []), [], hW', ?_, ?_, ?_, kept_of hm _, fun h => by cases h⟩
  · rw [hr, List.append_nil, hs]
    exact trodAll_cons_mk (shut_bool Tryz.underlying4 true) trodAll_mk0
  · rw [hp, List.append_nil, hs]
    have hb : ∀ p ∈ p0, p.block < W.heap.size := fun p hp => hlt p (by simp [hp])
    exact trodAll_cons_mk (Trod_stays hlaid hr22 hs22 h0 (fun p hp => same_of hm (hb p hp)) (fun p hp => by simpa using hb p hp)) (trodAll_cons_mk (shut_int Tryz.underlying3 w1) trodAll_mk0)
  · rw [hv, List.append_nil, hs]
    rfl
end Orr
