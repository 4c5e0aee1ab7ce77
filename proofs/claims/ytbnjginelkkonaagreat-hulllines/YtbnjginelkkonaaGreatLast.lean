/- ClaimHL -/
import Derived.Test.YtbnjginelkkonaaGreatPart09
import Derived.Test.YtbnjginelkkonaaGreatRows
import Derived.JoinedCond
set_option linter.all false
namespace Go.Proofs.YtbnjginelkkonaaGreat.hullLines
open Go Go.Proofs Go.ChangeShapes Go.WideShapes Go.ChangeAt Go.RowKit Orr
theorem own : ownKnob Tryz.prog.godebug = none := by kernel_rfl
theorem laid : laidOutB Tryz.prog = true := by kernel_rfl
theorem Q23 : Tryz.prog.readableRec 22 = true := by kernel_rfl
theorem Q5m : Tryz.prog.readableRec 3 = true := by kernel_rfl
theorem Q06 : 22 < Tryz.prog.types.size := of_decide_eq_true (by kernel_rfl)
theorem Q29 : 3 < Tryz.prog.types.size := of_decide_eq_true (by kernel_rfl)
set_option maxRecDepth 100000 in
theorem lifted (os : Os) (started : os.Started) (H : Type) (enc : TypeId × Value → H) :
    ReturnsInHanded {} Tryz.checked os 13 .any (Rows.hullLinesSpec.pre6 enc Tryz.prog Tryz.f13 [] false) (Rows.hullLinesSpec.post enc Tryz.prog Tryz.f13 false true false false) := by
  refine returnsInHanded_of_change_sized (C := Tryz.checked) own started (by kernel_rfl) Tryz.func13
    (ChangeSpec.witness6 (enc := enc) (C := Tryz.checked) (s := Rows.hullLinesSpec) false ⟨#[], #[.slice none 0 0, .int .i64 0, .bool false], []⟩ 8 (by kernel_rfl) (by kernel_rfl) (by kernel_rfl) (by kernel_rfl)) ?_
  intro W base args ds gs Xu hval hW _ hz _
  exact Qnh Tryz.params13 (by kernel_rfl) rfl (fun _ _ _ _ => rfl) laid Q23 Q5m Q06 Q29 (fun zs n b h1 h2 => Is h1 (by omega)) hval hW hz
set_option maxRecDepth 100000 in
set_option maxHeartbeats 8000000 in
theorem closed : joinedFacts Tryz.pinned.checked.prog 13 Tryz.f13 Rows.hullLinesSpec Rows.hullLinesRow = true := by
  unfold joinedFacts
  simp only [Bool.and_eq_true]
  repeat' apply And.intro
  all_goals as_aux_lemma => kernel_rfl
theorem named : Tryz.pinned.checked.prog.funcNamed Rows.hullLinesRow.func = some 13 := by kernel_rfl
theorem inst : Tryz.f13.isInstance Tryz.pinned.checked.prog Rows.hullLinesRow.origin Rows.hullLinesRow.targs := of_decide_eq_true (by kernel_rfl)
theorem wrap : Tryz.f13.isWrapper Tryz.pinned.checked.prog Rows.hullLinesRow.wrapper Rows.hullLinesRow.mainSum := by
  unfold Func.isWrapper
  first | (rw [if_pos (by decide +kernel)]; kernel_rfl) | (rw [if_neg (by decide +kernel)]; exact ⟨rfl, rfl⟩)
theorem over : Rows.hullLinesRow.holds Tryz.pinned (OpenSpec.ofChange Rows.hullLinesSpec) :=
  OpenClaim.holds_of_wide 13 Tryz.f13 rfl rfl rfl rfl rfl rfl rfl ⟨rfl, rfl, rfl, rfl, rfl⟩ rfl rfl rfl rfl rfl named Tryz.func13 closed inst wrap
    (fun os started H enc _ => lifted os started H enc)
theorem proved : Rows.HullLinesSaid :=
  over
end Go.Proofs.YtbnjginelkkonaaGreat.hullLines
