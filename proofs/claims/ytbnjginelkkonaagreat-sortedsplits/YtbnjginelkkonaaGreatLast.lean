/- ClaimSS -/
import Derived.Test.YtbnjginelkkonaaGreatPart10
import Derived.Test.YtbnjginelkkonaaGreatRows
import Derived.JoinedCond
set_option linter.all false

namespace Go.Proofs.YtbnjginelkkonaaGreat.sortedSplits
open Go Go.Proofs Go.ChangeShapes Go.WideShapes Go.ChangeAt Go.RowKit Orr
theorem own : ownKnob Tryz.prog.godebug = none := by kernel_rfl
theorem laid : laidOutB Tryz.prog = true := by kernel_rfl
theorem Q87 : Tryz.prog.readableRec 24 = true := by kernel_rfl
theorem Zbv : Tryz.prog.readableRec 22 = true := by kernel_rfl
theorem Q61 : 24 < Tryz.prog.types.size := of_decide_eq_true (by kernel_rfl)
theorem Q9d : 22 < Tryz.prog.types.size := of_decide_eq_true (by kernel_rfl)
set_option maxRecDepth 100000 in
theorem lifted (os : Os) (started : os.Started) (H : Type) (enc : TypeId × Value → H) :
    ReturnsInHanded {} Tryz.checked os 9 .any (Rows.sortedSplitsSpec.pre6 enc Tryz.prog Tryz.f9 [] false) (Rows.sortedSplitsSpec.post enc Tryz.prog Tryz.f9 false true false false) := by
  refine returnsInHanded_of_change_sized (C := Tryz.checked) own started (by kernel_rfl) Tryz.func9
    (ChangeSpec.witness6 (enc := enc) (C := Tryz.checked) (s := Rows.sortedSplitsSpec) false ⟨#[], #[.slice none 0 0, .slice none 0 0], []⟩ 8 (by kernel_rfl) (by kernel_rfl) (by kernel_rfl) (by kernel_rfl)) ?_
  intro W base args ds gs Vr hval hW _ hz _
  exact Qha Tryz.params9 (by kernel_rfl) rfl (fun _ _ _ => rfl) laid Q87 Zbv Q61 Q9d (fun zs cs h1 h2 => Il h1 h2) hval hW hz
set_option maxRecDepth 100000 in
set_option maxHeartbeats 8000000 in
theorem closed : joinedFacts Tryz.pinned.checked.prog 9 Tryz.f9 Rows.sortedSplitsSpec Rows.sortedSplitsRow = true := by
  unfold joinedFacts
  simp only [Bool.and_eq_true]
  repeat' apply And.intro
  all_goals as_aux_lemma => kernel_rfl
theorem named : Tryz.pinned.checked.prog.funcNamed Rows.sortedSplitsRow.func = some 9 := by kernel_rfl
theorem inst : Tryz.f9.isInstance Tryz.pinned.checked.prog Rows.sortedSplitsRow.origin Rows.sortedSplitsRow.targs := of_decide_eq_true (by kernel_rfl)
theorem wrap : Tryz.f9.isWrapper Tryz.pinned.checked.prog Rows.sortedSplitsRow.wrapper Rows.sortedSplitsRow.mainSum := by
  unfold Func.isWrapper
  first | (rw [if_pos (by decide +kernel)]; kernel_rfl) | (rw [if_neg (by decide +kernel)]; exact ⟨rfl, rfl⟩)
theorem over : Rows.sortedSplitsRow.holds Tryz.pinned (OpenSpec.ofChange Rows.sortedSplitsSpec) :=
  OpenClaim.holds_of_wide 9 Tryz.f9 rfl rfl rfl rfl rfl rfl rfl ⟨rfl, rfl, rfl, rfl, rfl⟩ rfl rfl rfl rfl rfl named Tryz.func9 closed inst wrap
    (fun os started H enc _ => lifted os started H enc)
theorem proved : Rows.SortedSplitsSaid :=
  over
end Go.Proofs.YtbnjginelkkonaaGreat.sortedSplits
