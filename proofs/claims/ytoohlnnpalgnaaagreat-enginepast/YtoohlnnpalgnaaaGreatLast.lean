/- ClaimEP -/
import Derived.Test.YtoohlnnpalgnaaaGreatPart10
import Derived.Test.YtoohlnnpalgnaaaGreatPart11
import Derived.Test.YtoohlnnpalgnaaaGreatRows
import Derived.JoinedCond
import Derived.Test.YtoohlnnpalgnaaaGreatPart00
set_option linter.all false
namespace Go.Proofs.YtoohlnnpalgnaaaGreat.enginePast
open Go Go.Proofs Go.ChangeShapes Go.WideShapes Go.ChangeAt Go.RowKit Orr
theorem own : ownKnob Tryz.prog.godebug = none := by kernel_rfl
theorem laid : laidOutB Tryz.prog = true := by kernel_rfl
theorem NY : Tryz.prog.readableRec 3 = true := by kernel_rfl
theorem GH : 3 < Tryz.prog.types.size := of_decide_eq_true (by kernel_rfl)
theorem Qp6 : Tryz.prog.readableRec 70 = true := by kernel_rfl
theorem Qkv : 70 < Tryz.prog.types.size := of_decide_eq_true (by kernel_rfl)
abbrev ps : List (TypeId × (TV → Prop)) := [(3, Qdw), (3, Qdw), (70, Qxb), (3, Qdw), (3, Qdw)]
theorem rds : ∀ q ∈ ps, IV q.1 q.2 := fun q hq => by
  simp only [ps, List.mem_cons, List.not_mem_nil, or_false] at hq
  rcases hq with rfl | rfl | rfl | rfl | rfl
  · exact YI
  · exact YI
  · exact Qc7
  · exact YI
  · exact YI
theorem Q0u : ∀ q ∈ ps, Tryz.prog.readableRec q.1 = true ∧ q.1 < Tryz.prog.types.size := fun q hq => by
  simp only [ps, List.mem_cons, List.not_mem_nil, or_false] at hq
  rcases hq with rfl | rfl | rfl | rfl | rfl
  · exact ⟨NY, GH⟩
  · exact ⟨NY, GH⟩
  · exact ⟨Qp6, Qkv⟩
  · exact ⟨NY, GH⟩
  · exact ⟨NY, GH⟩
theorem Q0o (us : List TV) (h : F2 (fun u (q : TypeId × (TV → Prop)) => q.2 u) us ps) : AS Tryz.prog 7 us [.one (.bool true)] := by
  unfold ps at h
  cases h with
  | cons x0 h =>
    obtain ⟨a0, h0, rfl⟩ := x0
    cases h with
    | cons x1 h =>
      obtain ⟨a1, h1, rfl⟩ := x1
      cases h with
      | cons x2 h =>
        obtain ⟨a2, h2, rfl⟩ := x2
        cases h with
        | cons x3 h =>
          obtain ⟨a3, h3, rfl⟩ := x3
          cases h with
          | cons x4 h =>
            obtain ⟨a4, h4, rfl⟩ := x4
            cases h
            exact jJ h0 h1 h2 h3 h4
theorem Qyz (H : Type) (ds : List (DataW H)) (h : ds.length = ps.length) : (Rows.enginePastSpec).fn H ds = { results := [.lit (.bool true)], args := ds } := by
  match ds, h with
  | [_, _, _, _, _], _ => rfl
set_option maxRecDepth 100000 in
theorem lifted (os : Os) (started : os.Started) (H : Type) (enc : TypeId × Value → H) :
    ReturnsInHanded {} Tryz.checked os 7 .any (Rows.enginePastSpec.pre6 enc Tryz.prog Tryz.f7 [] false) (Rows.enginePastSpec.post enc Tryz.prog Tryz.f7 false true false false) := by
  refine returnsInHanded_of_change_sized (C := Tryz.checked) own started (by kernel_rfl) Tryz.func7
    (ChangeSpec.witness6 (enc := enc) (C := Tryz.checked) (s := Rows.enginePastSpec) false ⟨#[], #[.int .i64 0, .int .i64 0, .slice none 0 0, .int .i64 0, .int .i64 0], []⟩ 8 (by kernel_rfl) (by kernel_rfl) (by kernel_rfl) (by kernel_rfl)) ?_
  intro W base args ds gs Ts hval hW _ hz _
  exact Qif (ps := ps) Tryz.params7 (by kernel_rfl) rfl Qyz laid Q0u rds Q0o hval hW hz
set_option maxRecDepth 100000 in
set_option maxHeartbeats 8000000 in
theorem closed : joinedFacts Tryz.pinned.checked.prog 7 Tryz.f7 Rows.enginePastSpec Rows.enginePastRow = true := by
  unfold joinedFacts
  simp only [Bool.and_eq_true]
  repeat' apply And.intro
  all_goals as_aux_lemma => kernel_rfl
theorem named : Tryz.pinned.checked.prog.funcNamed Rows.enginePastRow.func = some 7 := by kernel_rfl
theorem inst : Tryz.f7.isInstance Tryz.pinned.checked.prog Rows.enginePastRow.origin Rows.enginePastRow.targs := of_decide_eq_true (by kernel_rfl)
theorem wrap : Tryz.f7.isWrapper Tryz.pinned.checked.prog Rows.enginePastRow.wrapper Rows.enginePastRow.mainSum := by
  unfold Func.isWrapper
  first | (rw [if_pos (by decide +kernel)]; kernel_rfl) | (rw [if_neg (by decide +kernel)]; exact ⟨rfl, rfl⟩)
theorem over : Rows.enginePastRow.holds Tryz.pinned (OpenSpec.ofChange Rows.enginePastSpec) :=
  OpenClaim.holds_of_wide 7 Tryz.f7 rfl rfl rfl rfl rfl rfl rfl ⟨rfl, rfl, rfl, rfl, rfl⟩ rfl rfl rfl rfl rfl named Tryz.func7 closed inst wrap
    (fun os started H enc _ => lifted os started H enc)
theorem proved : Rows.EnginePastSaid :=
  over
end Go.Proofs.YtoohlnnpalgnaaaGreat.enginePast
