/- ClaimPA -/
import Derived.Test.YtoohlnnpalgnaaaGreatPart10
import Derived.Test.YtoohlnnpalgnaaaGreatPart11
import Derived.Test.YtoohlnnpalgnaaaGreatRows
import Derived.JoinedCond
import Derived.Test.YtoohlnnpalgnaaaGreatPart00
set_option linter.all false
namespace Go.Proofs.YtoohlnnpalgnaaaGreat.engineParts
open Go Go.Proofs Go.ChangeShapes Go.WideShapes Go.ChangeAt Go.RowKit Orr
theorem own : ownKnob Tryz.prog.godebug = none := by kernel_rfl
theorem laid : laidOutB Tryz.prog = true := by kernel_rfl
theorem Qac : Tryz.prog.readableRec 3 = true := by kernel_rfl
theorem tP : 3 < Tryz.prog.types.size := of_decide_eq_true (by kernel_rfl)
theorem Qp8 : Tryz.prog.readableRec 70 = true := by kernel_rfl
theorem Qky : 70 < Tryz.prog.types.size := of_decide_eq_true (by kernel_rfl)
abbrev ps : List (TypeId × (TV → Prop)) := [(3, Qs2), (3, Qs2), (70, Qxf)]
theorem rds : ∀ q ∈ ps, IW q.1 q.2 := fun q hq => by
  simp only [ps, List.mem_cons, List.not_mem_nil, or_false] at hq
  rcases hq with rfl | rfl | rfl
  · exact zK
  · exact zK
  · exact Qdc
theorem Q02 : ∀ q ∈ ps, Tryz.prog.readableRec q.1 = true ∧ q.1 < Tryz.prog.types.size := fun q hq => by
  simp only [ps, List.mem_cons, List.not_mem_nil, or_false] at hq
  rcases hq with rfl | rfl | rfl
  · exact ⟨Qac, tP⟩
  · exact ⟨Qac, tP⟩
  · exact ⟨Qp8, Qky⟩
theorem Q0w (us : List TV) (h : F2 (fun u (q : TypeId × (TV → Prop)) => q.2 u) us ps) : AT Tryz.prog 4 us [.one (.bool true)] := by
  unfold ps at h
  cases h with
  | cons x0 h =>
    obtain ⟨a0, h0, rfl⟩ := x0
    cases h with
    | cons x1 h =>
      obtain ⟨a1, h1, rfl⟩ := x1
      cases h with
      | cons x2 h =>
        obtain ⟨a2, h2, rfl⟩ := x2
        cases h
        exact AB h0 h1 h2
theorem Qy8 (H : Type) (ds : List (DataW H)) (h : ds.length = ps.length) : (Rows.enginePartsSpec).fn H ds = { results := [.lit (.bool true)], args := ds } := by
  match ds, h with
  | [_, _, _], _ => rfl
set_option maxRecDepth 100000 in
theorem lifted (os : Os) (started : os.Started) (H : Type) (enc : TypeId × Value → H) :
    ReturnsInHanded {} Tryz.checked os 4 .any (Rows.enginePartsSpec.pre6 enc Tryz.prog Tryz.f4 [] false) (Rows.enginePartsSpec.post enc Tryz.prog Tryz.f4 false true false false) := by
  refine returnsInHanded_of_change_sized (C := Tryz.checked) own started (by kernel_rfl) Tryz.func4
    (ChangeSpec.witness6 (enc := enc) (C := Tryz.checked) (s := Rows.enginePartsSpec) false ⟨#[], #[.int .i64 0, .int .i64 0, .slice none 0 0], []⟩ 8 (by kernel_rfl) (by kernel_rfl) (by kernel_rfl) (by kernel_rfl)) ?_
  intro W base args ds gs Tu hval hW _ hz _
  exact Qil (ps := ps) Tryz.params4 (by kernel_rfl) rfl Qy8 laid Q02 rds Q0w hval hW hz
set_option maxRecDepth 100000 in
set_option maxHeartbeats 8000000 in
theorem closed : joinedFacts Tryz.pinned.checked.prog 4 Tryz.f4 Rows.enginePartsSpec Rows.enginePartsRow = true := by
  unfold joinedFacts
  simp only [Bool.and_eq_true]
  repeat' apply And.intro
  all_goals as_aux_lemma => kernel_rfl
theorem named : Tryz.pinned.checked.prog.funcNamed Rows.enginePartsRow.func = some 4 := by kernel_rfl
theorem inst : Tryz.f4.isInstance Tryz.pinned.checked.prog Rows.enginePartsRow.origin Rows.enginePartsRow.targs := of_decide_eq_true (by kernel_rfl)
theorem wrap : Tryz.f4.isWrapper Tryz.pinned.checked.prog Rows.enginePartsRow.wrapper Rows.enginePartsRow.mainSum := by
  unfold Func.isWrapper
  first | (rw [if_pos (by decide +kernel)]; kernel_rfl) | (rw [if_neg (by decide +kernel)]; exact ⟨rfl, rfl⟩)
theorem over : Rows.enginePartsRow.holds Tryz.pinned (OpenSpec.ofChange Rows.enginePartsSpec) :=
  OpenClaim.holds_of_wide 4 Tryz.f4 rfl rfl rfl rfl rfl rfl rfl ⟨rfl, rfl, rfl, rfl, rfl⟩ rfl rfl rfl rfl rfl named Tryz.func4 closed inst wrap
    (fun os started H enc _ => lifted os started H enc)
theorem proved : Rows.EnginePartsSaid :=
  over
end Go.Proofs.YtoohlnnpalgnaaaGreat.engineParts
