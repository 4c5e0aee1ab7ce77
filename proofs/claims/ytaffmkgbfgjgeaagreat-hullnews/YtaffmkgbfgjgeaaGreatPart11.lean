/- The last step of a law of points and a number: the arguments as they lie in memory are told in plain data; behind the call nothing of the old memory has changed. -/
import Derived.Test.YtaffmkgbfgjgeaaGreatPart10
import Derived.ProofKit
import Derived.OpenShut
import Derived.WideKeyArgs
import Derived.SizedLaws
set_option linter.all false

namespace Orr
open Go Go.Proofs Go.ChangeShapes Go.WideShapes Go.ChangeAt Go.RowKit Go.WideElems

theorem cell_at {w : World} {a : Addr} {v : Value} (h : w.cell? a = some v) : a.spot = none ∧ a.block < w.heap.size := by
  simp only [World.cell?] at h
  split at h
  · rename_i c t fr hc
    split at h
    · cases h
    · rename_i hs
      refine ⟨by cases e : a.spot with | none => rfl | some _ => simp [e] at hs, ?_⟩
      exact (Array.getElem?_eq_some_iff.1 hc).1
  · cases h
theorem add_add {a : Addr} (h : a.spot = none) (n m : Nat) : (a.add n).add m = ⟨a.block, a.off + n + m, none⟩ := by
  obtain ⟨b, o, s⟩ := a
  simp only at h
  subst h
  simp only [Addr.add]
  split
  · rename_i h; subst h
    split
    · rename_i h; subst h; simp
    · simp
  · split
    · rename_i h; subst h; simp
    · simp

theorem same_of {w w' : World} {Bo : List Blk} (h : Moved w w' [] Bo) {p : MemPlace} (hp : p.block < w.heap.size) : w.sameAt w' p := by
  cases p with
  | cell b off => simp only [World.sameAt, World.cell?]; rw [h.keep b hp (by simp)]
  | map b => exact h.keep b hp (by simp)
theorem kept_of {w w' : World} {Bo : List Blk} (h : Moved w w' [] Bo) (may : MemPlace → Prop) : w.keptBut w' may := by
  refine ⟨h.io.1, h.io.2, fun i hi => ?_⟩
  rw [h.keep i hi (by simp)]
  cases w.heap[i]? with
  | none => rfl
  | some o => cases o <;> simp

set_option maxRecDepth 20000 in
/-- a row of points, told with what is read of it: the names -/
theorem pts_read {H : Type} {enc : TypeId × Value → H} {w : World} {v : Value} {d : DataW H} {ps : List MemPlace} {ts : List TypeId} {ds : List (DataW H)} {base : Nat}
    (hval : Value.okWide Tryz.prog w .any base 22 v) (h : DataW.Trod enc Tryz.prog w 0 (fun _ => true) true 22 v d ps)
    (hz : (DataW.weightsEach Tryz.prog ts ds).all (· ≤ reachBytes) = true) (ht : ts[0]? = some 22) (hd : ds[0]? = some d) :
    ∃ zs, Named zs ∧ LRep w (owns (fun _ => False) []) v (.row zs) := by
  obtain ⟨a, len, cap, rfl⟩ := okWide_slice Tryz.underlying22 hval
  obtain ⟨fu, h⟩ := h
  rcases Go.Deep.open_slice Tryz.underlying22 h with ⟨e, _⟩ | ⟨a', len', cap', m, n, D, Pl, e, _, hlc, hcap, hm, hx, hr⟩
  · simp only [Value.cells] at e
    have e : Value.slice a len cap = .slice none 0 0 := by simpa using e
    injection e with e1 e2 e3
    subst e1 e2 e3
    refine ⟨[], fun z hz => by simp at hz, ?_⟩
    exact LRep.row none 0 0 0 0 [] (fun _ _ => .bool true) (Nat.le_refl _) (by decide) (by decide) (by simp) (by simp) (by simp) (by simp)
  · simp only [Value.cells] at e
    have e : Value.slice a len cap = .slice (some a') len' cap' := by simpa using e
    injection e with e1 e2 e3
    subst e1 e2 e3
    simp only [if_true] at hm
    subst hm
    have hd' : d = _ := congrArg Prod.fst hx
    subst hd'
    have hw := sized_slice hz ht hd Tryz.underlying22
    have hc5 : Tryz.prog.cellsOf 76 = 5 := by kernel_rfl
    have hb : 1 ≤ Tryz.prog.bytesOf 76 := of_decide_eq_true (by kernel_rfl)
    have hlen : len < 2 ^ 47 := by
      have h1 : len ≤ (len + (m - len)) * Tryz.prog.bytesOf 76 := by
        have := Nat.mul_le_mul (Nat.le_add_right len (m - len)) hb
        omega
      have h2 : (len + (m - len)) * Tryz.prog.bytesOf 76 ≤ reachBytes := by simpa using hw
      exact Nat.lt_of_le_of_lt (Nat.le_trans h1 h2) reachBytes_lt
    have hone : ∀ i, ∃ (g : Nat → Value) (id : Int), i < len → a'.spot = none ∧ a'.block < w.heap.size ∧
        (∀ j, j < 5 → w.cell? ⟨a'.block, a'.off + i * 5 + j, none⟩ = some (g j)) ∧ (∀ j, j < 4 → one (g j) = true) ∧ g 4 = .int .i64 id ∧ (Lit.int .i64 id).wf = true := by
      intro i
      by_cases hi : i < len
      · obtain ⟨cs, hcs, htr⟩ := hr i (by omega)
        rw [hc5] at hcs
        obtain ⟨_, hl, hcell⟩ := World.cells?_some hcs
        obtain ⟨v0, v1, v2, v3, id, rfl, o0, o1, o2, o3, hwf⟩ := pt_read htr
        have c0 := hcell 0 (by decide)
        have c1 := hcell 1 (by decide)
        have c2 := hcell 2 (by decide)
        have c3 := hcell 3 (by decide)
        have c4 := hcell 4 (by decide)
        have hsp : a'.spot = none := by
          by_cases h0 : i = 0
          · subst h0
            have : (a'.add (0 * 5)).add 0 = a' := by simp [Addr.add]
            rw [this] at c0
            exact (cell_at c0).1
          · obtain ⟨cs0, hcs0, htr0⟩ := hr 0 (by omega)
            rw [hc5] at hcs0
            obtain ⟨_, _, hcell0⟩ := World.cells?_some hcs0
            obtain ⟨u0, u1, u2, u3, _, rfl, _⟩ := pt_read htr0
            have c0 := hcell0 0 (by decide)
            have : (a'.add (0 * 5)).add 0 = a' := by simp [Addr.add]
            rw [this] at c0
            exact (cell_at c0).1
        rw [add_add hsp] at c0 c1 c2 c3 c4
        have hbl := (cell_at c0).2
        refine ⟨fun j => [v0, v1, v2, v3, .int .i64 id].getD j (.bool true), id, fun _ => ⟨hsp, hbl, ?_, ?_, rfl, hwf⟩⟩
        · intro j hj
          match j, hj with
          | 0, _ => simpa using c0
          | 1, _ => simpa using c1
          | 2, _ => simpa using c2
          | 3, _ => simpa using c3
          | 4, _ => simpa using c4
        · intro j hj
          match j, hj with
          | 0, _ => simpa using o0
          | 1, _ => simpa using o1
          | 2, _ => simpa using o2
          | 3, _ => simpa using o3
      · exact ⟨fun _ => .bool true, 0, fun h => absurd h hi⟩
    let G : Nat → Nat → Value := fun i => Classical.choose (hone i)
    have hG : ∀ i, ∃ id : Int, i < len → a'.spot = none ∧ a'.block < w.heap.size ∧
        (∀ j, j < 5 → w.cell? ⟨a'.block, a'.off + i * 5 + j, none⟩ = some (G i j)) ∧ (∀ j, j < 4 → one (G i j) = true) ∧ G i 4 = .int .i64 id ∧ (Lit.int .i64 id).wf = true := fun i => Classical.choose_spec (hone i)
    let I : Nat → Int := fun i => Classical.choose (hG i)
    have hI : ∀ i, i < len → a'.spot = none ∧ a'.block < w.heap.size ∧
        (∀ j, j < 5 → w.cell? ⟨a'.block, a'.off + i * 5 + j, none⟩ = some (G i j)) ∧ (∀ j, j < 4 → one (G i j) = true) ∧ G i 4 = .int .i64 (I i) ∧ (Lit.int .i64 (I i)).wf = true := fun i => Classical.choose_spec (hG i)
    let zs : List (List LV) := (List.range len).map fun i => [.any, .any, .any, .any, .int .i64 (I i)]
    have hzl : zs.length = len := by simp [zs]
    have hzg : ∀ i cs, zs[i]? = some cs → i < len ∧ cs = [.any, .any, .any, .any, .int .i64 (I i)] := by
      intro i cs h
      simp only [zs, List.getElem?_map] at h
      by_cases hi : i < len
      · rw [List.getElem?_range hi] at h
        simp at h
        exact ⟨hi, h.symm⟩
      · rw [List.getElem?_eq_none (by simp; omega)] at h
        cases h
    refine ⟨zs, ?_, ?_⟩
    · intro z hz
      obtain ⟨i, hi⟩ := List.mem_iff_getElem?.1 hz
      obtain ⟨hl, rfl⟩ := hzg i z hi
      have hwf := (hI i hl).2.2.2.2.2
      refine ⟨_, _, _, _, _, rfl, ?_⟩
      simpa [Lit.wf, IntKind.min, IntKind.max, IntKind.signed, IntKind.bits] using hwf
    · have key : LRep w (owns (fun _ => False) []) (.slice (some a') zs.length m) (.row zs) := by
        refine LRep.row (some a') m 5 a'.block a'.off zs G (by omega) ?_ (by omega) ?_ ?_ ?_ ?_
        · have : maxLen = 2 ^ 63 - 1 := by rfl
          omega
        · intro cs hcs
          obtain ⟨i, hi⟩ := List.mem_iff_getElem?.1 hcs
          obtain ⟨_, rfl⟩ := hzg i cs hi
          rfl
        · intro h0
          obtain ⟨hs, hb, _⟩ := hI 0 (by omega)
          refine ⟨?_, hb, by simp [owns]⟩
          obtain ⟨b, o, s⟩ := a'
          simp only at hs
          rw [hs]
        · intro i cs hi j hj
          obtain ⟨hl, rfl⟩ := hzg i cs hi
          exact (hI i hl).2.2.1 j hj
        · intro i cs hi j x hx
          obtain ⟨hl, rfl⟩ := hzg i cs hi
          obtain ⟨_, _, _, h4, h5, _⟩ := hI i hl
          match j, hx with
          | 0, hx => simp at hx; subst hx; exact .any _ (h4 0 (by decide))
          | 1, hx => simp at hx; subst hx; exact .any _ (h4 1 (by decide))
          | 2, hx => simp at hx; subst hx; exact .any _ (h4 2 (by decide))
          | 3, hx => simp at hx; subst hx; exact .any _ (h4 3 (by decide))
          | 4, hx => simp at hx; subst hx; rw [h5]; exact .int _ _
          | j + 5, hx => simp at hx
      rwa [hzl] at key

set_option maxRecDepth 20000 in
/-- a law of a row of points, of which only the names are read, and a number -/
theorem law_points {f : FuncId} {fn : Func} {s : ChangeSpec} (hp : fn.params = #[22, 3]) (hr : fn.resultTypes = #[4]) (hv : s.vars = [])
    (hs : ∀ (H : Type) (d1 d2 : DataW H), s.fn H [d1, d2] = { results := [.lit (.bool true)], args := [d1, d2] })
    (hlaid : laidOutB Tryz.prog = true) (hr22 : Tryz.prog.readableRec 22 = true) (hr3 : Tryz.prog.readableRec 3 = true) (hs22 : 22 < Tryz.prog.types.size) (hs3 : 3 < Tryz.prog.types.size)
    (law : ∀ (zs : List (List LV)) (n : Int), Named zs → (-2^63 ≤ n ∧ n ≤ 2^63-1) → Does Tryz.prog f [.one (.row zs), .one (.int .i64 n)] (.one (.bool true)))
    {H : Type} {enc : TypeId × Value → H} {W : World} {base : Nat} {args : Array Value} {ds gs : List (DataW H)} {before : List MemPlace} {fresh handsOn : Bool}
    (hval : ∀ (j : Nat) t v, fn.params[j]? = some t → args[j]? = some v → Value.okWide Tryz.prog W .any base t v)
    (hW : DataW.Whole enc Tryz.prog fn.params.toList s.vars false W args.toList ds gs before)
    (hz : (DataW.weightsEach Tryz.prog (fn.params.toList ++ s.plain.varTypes Tryz.prog) (ds ++ gs)).all (· ≤ reachBytes) = true) :
    Calls Tryz.prog f args W fun e W' => ∃ v, e = .returned v ∧ s.post enc Tryz.prog fn false fresh handsOn false W args v W' := by
  have hW' := hW
  obtain ⟨p, q, hA0, hV, rfl, hfz, hnd⟩ := hW
  have hA : DataW.TrodAll enc Tryz.prog W 0 (fun _ => true) true fn.params.toList args.toList ds p := hA0
  rw [hv] at hV
  obtain ⟨rfl, rfl⟩ := trodVars_none hV
  have hlt := hW'.lt
  rw [hp] at hA hval hz
  obtain ⟨v0, vs0, d0, ds0, p0, q0, hargs0, rfl, rfl, h0, r0⟩ := trodAll_cons hA
  obtain ⟨v1, vs1, d1, ds1, p1, q1, rfl, rfl, rfl, h1, r1⟩ := trodAll_cons r0
  obtain ⟨rfl, rfl, rfl⟩ := trodAll_nil r1
  obtain rfl : args = #[v0, v1] := by cases args; simp_all
  obtain ⟨n, rfl, rfl, rfl, w1⟩ := open_int Tryz.underlying3 (hval 1 3 v1 rfl rfl) h1
  obtain ⟨zs, hn, hrep⟩ := pts_read (hval 0 22 v0 rfl rfl) h0 hz rfl rfl
  have hn1 : -2^63 ≤ n ∧ n ≤ 2^63-1 := by simpa [Lit.wf, IntKind.min, IntKind.max, IntKind.signed, IntKind.bits] using w1
  have hcall := law zs n hn hn1 (fun _ => False) W [v0, .int .i64 n] [] (fun _ h => h.elim) ⟨by simp, by simp⟩ ⟨hrep.x, (LRep.int .i64 n).x, trivial⟩ rfl
  refine hcall.mono fun e W' ⟨v, r, Bout, Bo, he, hpost, har, hbs, hm, hh⟩ => ?_
  obtain ⟨rfl, rfl⟩ := hpost
  obtain rfl : v = .bool true := by
    have h : LRep _ _ v (.bool true) := har
    cases h
    rfl
  refine ⟨_, he, ?_⟩
  refine ⟨[d0, .lit (.int .i64 n)], [], _, [], p0 ++ ([] ++ []), [], hW', ?_, ?_, ?_, kept_of hm _, fun h => by cases h⟩
  · rw [hr, List.append_nil, hs]
    exact trodAll_cons_mk (shut_bool Tryz.underlying4 true) trodAll_mk0
  · rw [hp, List.append_nil, hs]
    have hb : ∀ p ∈ p0, p.block < W.heap.size := fun p hp => hlt p (by simp [hp])
    exact trodAll_cons_mk (Trod_stays hlaid hr22 hs22 h0 (fun p hp => same_of hm (hb p hp)) (fun p hp => by simpa using hb p hp)) (trodAll_cons_mk (shut_int Tryz.underlying3 w1) trodAll_mk0)
  · rw [hv, List.append_nil, hs]
    rfl
end Orr
