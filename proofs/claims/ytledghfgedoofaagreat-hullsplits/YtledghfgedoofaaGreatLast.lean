/- ClaimHS -/
import Derived.Test.YtledghfgedoofaaGreatPart10
import Derived.Test.YtledghfgedoofaaGreatRows
import Derived.JoinedCond
import Derived.Test.YtledghfgedoofaaGreatPart00
set_option linter.all false
namespace Go.Proofs.YtledghfgedoofaaGreat.hullSplits
open Go Go.Proofs Go.ChangeShapes Go.WideShapes Go.ChangeAt Go.RowKit Orr
theorem own : ownKnob Tryz.prog.godebug = none := by kernel_rfl
theorem laid : laidOutB Tryz.prog = true := by kernel_rfl
theorem Zm5 : Tryz.prog.readableRec 34 = true := by kernel_rfl
theorem Zpf : Tryz.prog.readableRec 42 = true := by kernel_rfl
theorem Zkw : 34 < Tryz.prog.types.size := of_decide_eq_true (by kernel_rfl)
theorem Znb : 42 < Tryz.prog.types.size := of_decide_eq_true (by kernel_rfl)
set_option maxRecDepth 100000 in
theorem lifted (os : Os) (started : os.Started) (H : Type) (enc : TypeId × Value → H) :
    ReturnsInHanded {} Tryz.checked os 4 .any (Rows.hullSplitsSpec.pre6 enc Tryz.prog Tryz.f4 [] false) (Rows.hullSplitsSpec.post enc Tryz.prog Tryz.f4 false true false false) := by
  refine returnsInHanded_of_change_sized (C := Tryz.checked) own started (by kernel_rfl) Tryz.func4
    (ChangeSpec.witness6 (enc := enc) (C := Tryz.checked) (s := Rows.hullSplitsSpec) false ⟨#[], #[.slice none 0 0, .slice none 0 0], []⟩ 8 (by kernel_rfl) (by kernel_rfl) (by kernel_rfl) (by kernel_rfl)) ?_
  intro W base args ds gs Td hval hW _ hz _
  exact Qt2 Tryz.params4 (by kernel_rfl) rfl (fun _ _ _ => rfl) laid Zm5 Zpf Zkw Znb (fun zs cs h1 h2 => Qka h1 h2) hval hW hz
set_option maxRecDepth 100000 in
set_option maxHeartbeats 8000000 in
theorem closed : joinedFacts Tryz.pinned.checked.prog 4 Tryz.f4 Rows.hullSplitsSpec Rows.hullSplitsRow = true := by
  unfold joinedFacts
  simp only [Bool.and_eq_true]
  repeat' apply And.intro
  all_goals as_aux_lemma => kernel_rfl
theorem named : Tryz.pinned.checked.prog.funcNamed Rows.hullSplitsRow.func = some 4 := by kernel_rfl
theorem inst : Tryz.f4.isInstance Tryz.pinned.checked.prog Rows.hullSplitsRow.origin Rows.hullSplitsRow.targs := of_decide_eq_true (by kernel_rfl)
theorem wrap : Tryz.f4.isWrapper Tryz.pinned.checked.prog Rows.hullSplitsRow.wrapper Rows.hullSplitsRow.mainSum := by
  unfold Func.isWrapper
  first | (rw [if_pos (by decide +kernel)]; kernel_rfl) | (rw [if_neg (by decide +kernel)]; exact ⟨rfl, rfl⟩)
theorem over : Rows.hullSplitsRow.holds Tryz.pinned (OpenSpec.ofChange Rows.hullSplitsSpec) :=
  OpenClaim.holds_of_wide 4 Tryz.f4 rfl rfl rfl rfl rfl rfl rfl ⟨rfl, rfl, rfl, rfl, rfl⟩ rfl rfl rfl rfl rfl named Tryz.func4 closed inst wrap
    (fun os started H enc _ => lifted os started H enc)
theorem proved : Rows.HullSplitsSaid :=
  over
end Go.Proofs.YtledghfgedoofaaGreat.hullSplits
