/- ClaimEE -/
import Derived.Test.YthgaepodbpcjdaaGreatPart10
import Derived.Test.YthgaepodbpcjdaaGreatRows
import Derived.JoinedCond
import Derived.Test.YthgaepodbpcjdaaGreatPart00
set_option linter.all false
namespace Go.Proofs.YthgaepodbpcjdaaGreat.engineErrors
open Go Go.Proofs Go.ChangeShapes Go.WideShapes Go.ChangeAt Go.RowKit Orr
theorem own : ownKnob Tryz.prog.godebug = none := by kernel_rfl
theorem laid : laidOutB Tryz.prog = true := by kernel_rfl
theorem oL : Tryz.prog.readableRec 3 = true := by kernel_rfl
theorem tM : 3 < Tryz.prog.types.size := of_decide_eq_true (by kernel_rfl)
theorem Qv4 : Tryz.prog.readableRec 64 = true := by kernel_rfl
theorem Qqt : 64 < Tryz.prog.types.size := of_decide_eq_true (by kernel_rfl)
theorem Qqa : Tryz.prog.readableRec 58 = true := by kernel_rfl
theorem Qk0 : 58 < Tryz.prog.types.size := of_decide_eq_true (by kernel_rfl)
abbrev ps : List (TypeId × (TV → Prop)) := [(3, Qs4), (3, Qs4), (58, Qxb), (64, OpA)]
theorem rds : ∀ q ∈ ps, NB q.1 q.2 := fun q hq => by
  simp only [ps, List.mem_cons, List.not_mem_nil, or_false] at hq
  rcases hq with rfl | rfl | rfl | rfl
  · exact zU
  · exact zU
  · exact Qc9
  · exact Qj9
theorem Q0w : ∀ q ∈ ps, Tryz.prog.readableRec q.1 = true ∧ q.1 < Tryz.prog.types.size := fun q hq => by
  simp only [ps, List.mem_cons, List.not_mem_nil, or_false] at hq
  rcases hq with rfl | rfl | rfl | rfl
  · exact ⟨oL, tM⟩
  · exact ⟨oL, tM⟩
  · exact ⟨Qqa, Qk0⟩
  · exact ⟨Qv4, Qqt⟩
theorem Q0q (us : List TV) (h : F2 (fun u (q : TypeId × (TV → Prop)) => q.2 u) us ps) : AM Tryz.prog 4 us [.one (.bool true)] := by
  unfold ps at h
  cases h with
  | cons x0 h =>
    obtain ⟨a0, h0, rfl⟩ := x0
    cases h with
    | cons x1 h =>
      obtain ⟨a1, h1, rfl⟩ := x1
      cases h with
      | cons x2 h =>
        obtain ⟨a2, h2, rfl⟩ := x2
        cases h with
        | cons x3 h =>
          obtain ⟨a3, h3, rfl⟩ := x3
          cases h
          exact CH h0 h1 h2 h3
theorem Qy1 (H : Type) (ds : List (DataW H)) (h : ds.length = ps.length) : (Rows.engineErrorsSpec).fn H ds = { results := [.lit (.bool true)], args := ds } := by
  match ds, h with
  | [_, _, _, _], _ => rfl
set_option maxRecDepth 100000 in
theorem lifted (os : Os) (started : os.Started) (H : Type) (enc : TypeId × Value → H) :
    ReturnsInHanded {} Tryz.checked os 4 .any (Rows.engineErrorsSpec.pre6 enc Tryz.prog Tryz.f4 [] false) (Rows.engineErrorsSpec.post enc Tryz.prog Tryz.f4 false true false false) := by
  refine returnsInHanded_of_change_sized (C := Tryz.checked) own started (by kernel_rfl) Tryz.func4
    (ChangeSpec.witness6 (enc := enc) (C := Tryz.checked) (s := Rows.engineErrorsSpec) false ⟨#[], #[.int .i64 0, .int .i64 0, .slice none 0 0, .agg #[.int .i64 0, .int .i64 0, .int .i64 0, .slice none 0 0, .slice none 0 0, .bool false, .slice none 0 0, .int .i64 0, .bool false, .slice none 0 0, .bool false, .slice none 0 0]], []⟩ 8 (by kernel_rfl) (by kernel_rfl) (by kernel_rfl) (by kernel_rfl)) ?_
  intro W base args ds gs Ts hval hW _ hz _
  exact Qim (ps := ps) Tryz.params4 (by kernel_rfl) rfl Qy1 laid Q0w rds Q0q hval hW hz
set_option maxRecDepth 100000 in
set_option maxHeartbeats 8000000 in
theorem closed : joinedFacts Tryz.pinned.checked.prog 4 Tryz.f4 Rows.engineErrorsSpec Rows.engineErrorsRow = true := by
  unfold joinedFacts
  simp only [Bool.and_eq_true]
  repeat' apply And.intro
  all_goals as_aux_lemma => kernel_rfl
theorem named : Tryz.pinned.checked.prog.funcNamed Rows.engineErrorsRow.func = some 4 := by kernel_rfl
theorem inst : Tryz.f4.isInstance Tryz.pinned.checked.prog Rows.engineErrorsRow.origin Rows.engineErrorsRow.targs := of_decide_eq_true (by kernel_rfl)
theorem wrap : Tryz.f4.isWrapper Tryz.pinned.checked.prog Rows.engineErrorsRow.wrapper Rows.engineErrorsRow.mainSum := by
  unfold Func.isWrapper
  first | (rw [if_pos (by decide +kernel)]; kernel_rfl) | (rw [if_neg (by decide +kernel)]; exact ⟨rfl, rfl⟩)
theorem over : Rows.engineErrorsRow.holds Tryz.pinned (OpenSpec.ofChange Rows.engineErrorsSpec) :=
  OpenClaim.holds_of_wide 4 Tryz.f4 rfl rfl rfl rfl rfl rfl rfl ⟨rfl, rfl, rfl, rfl, rfl⟩ rfl rfl rfl rfl rfl named Tryz.func4 closed inst wrap
    (fun os started H enc _ => lifted os started H enc)
theorem proved : Rows.EngineErrorsSaid :=
  over
end Go.Proofs.YthgaepodbpcjdaaGreat.engineErrors
