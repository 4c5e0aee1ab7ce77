import Derived.Test.YtpbfkdfffbfabaaGreatPart11
import Derived.Test.YtpbfkdfffbfabaaGreatRows
import Derived.JoinedCond
import Derived.Test.YtpbfkdfffbfabaaGreatPart00
set_option linter.all false
namespace Go.Proofs.YtpbfkdfffbfabaaGreat.engineHolds
open Go Go.Proofs Go.ChangeShapes Go.WideShapes Go.ChangeAt Go.RowKit Orr
theorem own : ownKnob Tryz.prog.godebug = none := by kernel_rfl
theorem laid : laidOutB Tryz.prog = true := by kernel_rfl
theorem Qe5 : Tryz.prog.readableRec 3 = true := by kernel_rfl
theorem dF : 3 < Tryz.prog.types.size := of_decide_eq_true (by kernel_rfl)
theorem Qvm : Tryz.prog.readableRec 22 = true := by kernel_rfl
theorem Qp6 : 22 < Tryz.prog.types.size := of_decide_eq_true (by kernel_rfl)
abbrev ps : List (TypeId × (TV → Prop)) := [(3, Qyj), (3, Qyj), (22, Q2q)]
theorem rds : ∀ q ∈ ps, jK q.1 q.2 := fun q hq => by
  simp only [ps, List.mem_cons, List.not_mem_nil, or_false] at hq
  rcases hq with rfl | rfl | rfl
  · exact kB
  · exact kB
  · exact Qh5
theorem Q6g : ∀ q ∈ ps, Tryz.prog.readableRec q.1 = true ∧ q.1 < Tryz.prog.types.size := fun q hq => by
  simp only [ps, List.mem_cons, List.not_mem_nil, or_false] at hq
  rcases hq with rfl | rfl | rfl
  · exact ⟨Qe5, dF⟩
  · exact ⟨Qe5, dF⟩
  · exact ⟨Qvm, Qp6⟩
theorem Q6a (us : List TV) (h : F2 (fun u (q : TypeId × (TV → Prop)) => q.2 u) us ps) : xR Tryz.prog 3 us [.one (.bool true)] := by
  unfold ps at h
  cases h with
  | cons x0 h =>
    obtain ⟨a0, h0, rfl⟩ := x0
    cases h with
    | cons x1 h =>
      obtain ⟨a1, h1, rfl⟩ := x1
      cases h with
      | cons x2 h =>
        obtain ⟨a2, h2, rfl⟩ := x2
        cases h
        exact xC h0 h1 h2
theorem Q4j (H : Type) (ds : List (DataW H)) (h : ds.length = ps.length) : (Rows.engineHoldsSpec).fn H ds = { results := [.lit (.bool true)], args := ds } := by
  match ds, h with
  | [_, _, _], _ => rfl
set_option maxRecDepth 100000 in
theorem lifted (os : Os) (started : os.Started) (H : Type) (enc : TypeId × Value → H) :
    ReturnsInHanded {} Tryz.checked os 3 .any (Rows.engineHoldsSpec.pre6 enc Tryz.prog Tryz.f3 [] false) (Rows.engineHoldsSpec.post enc Tryz.prog Tryz.f3 false true false false) := by
  refine returnsInHanded_of_change_sized (C := Tryz.checked) own started (by kernel_rfl) Tryz.func3
    (ChangeSpec.witness6 (enc := enc) (C := Tryz.checked) (s := Rows.engineHoldsSpec) false ⟨#[], #[.int .i64 0, .int .i64 0, .slice none 0 0], []⟩ 8 (by kernel_rfl) (by kernel_rfl) (by kernel_rfl) (by kernel_rfl)) ?_
  intro W base args ds gs P0 hval hW _ hz _
  exact Qno (ps := ps) Tryz.params3 (by kernel_rfl) rfl Q4j laid Q6g rds Q6a hval hW hz
set_option maxRecDepth 100000 in
set_option maxHeartbeats 8000000 in
theorem closed : joinedFacts Tryz.pinned.checked.prog 3 Tryz.f3 Rows.engineHoldsSpec Rows.engineHoldsRow = true := by
  unfold joinedFacts
  simp only [Bool.and_eq_true]
  repeat' apply And.intro
  all_goals as_aux_lemma => kernel_rfl
theorem named : Tryz.pinned.checked.prog.funcNamed Rows.engineHoldsRow.func = some 3 := by kernel_rfl
theorem inst : Tryz.f3.isInstance Tryz.pinned.checked.prog Rows.engineHoldsRow.origin Rows.engineHoldsRow.targs := of_decide_eq_true (by kernel_rfl)
theorem wrap : Tryz.f3.isWrapper Tryz.pinned.checked.prog Rows.engineHoldsRow.wrapper Rows.engineHoldsRow.mainSum := by
  unfold Func.isWrapper
  first | (rw [if_pos (by decide +kernel)]; kernel_rfl) | (rw [if_neg (by decide +kernel)]; exact ⟨rfl, rfl⟩)
theorem over : Rows.engineHoldsRow.holds Tryz.pinned (OpenSpec.ofChange Rows.engineHoldsSpec) :=
  OpenClaim.holds_of_wide 3 Tryz.f3 rfl rfl rfl rfl rfl rfl rfl ⟨rfl, rfl, rfl, rfl, rfl⟩ rfl rfl rfl rfl rfl named Tryz.func3 closed inst wrap
    (fun os started H enc _ => lifted os started H enc)
theorem proved : Rows.EngineHoldsSaid :=
  over
end Go.Proofs.YtpbfkdfffbfabaaGreat.engineHolds
