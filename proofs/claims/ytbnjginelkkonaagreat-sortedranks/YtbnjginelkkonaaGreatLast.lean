/- ClaimSR -/
import Derived.Test.YtbnjginelkkonaaGreatPart10
import Derived.Test.YtbnjginelkkonaaGreatRows
import Derived.JoinedCond
set_option linter.all false

namespace Go.Proofs.YtbnjginelkkonaaGreat.sortedRanks
open Go Go.Proofs Go.ChangeShapes Go.WideShapes Go.ChangeAt Go.RowKit Orr
theorem own : ownKnob Tryz.prog.godebug = none := by kernel_rfl
theorem laid : laidOutB Tryz.prog = true := by kernel_rfl
theorem Q69 : Tryz.prog.readableRec 24 = true := by kernel_rfl
theorem Q9t : Tryz.prog.readableRec 3 = true := by kernel_rfl
theorem Q45 : 24 < Tryz.prog.types.size := of_decide_eq_true (by kernel_rfl)
theorem Q7f : 3 < Tryz.prog.types.size := of_decide_eq_true (by kernel_rfl)
set_option maxRecDepth 100000 in
theorem lifted (os : Os) (started : os.Started) (H : Type) (enc : TypeId × Value → H) :
    ReturnsInHanded {} Tryz.checked os 10 .any (Rows.sortedRanksSpec.pre6 enc Tryz.prog Tryz.f10 [] false) (Rows.sortedRanksSpec.post enc Tryz.prog Tryz.f10 false true false false) := by
  refine returnsInHanded_of_change_sized (C := Tryz.checked) own started (by kernel_rfl) Tryz.func10
    (ChangeSpec.witness6 (enc := enc) (C := Tryz.checked) (s := Rows.sortedRanksSpec) false ⟨#[], #[.slice none 0 0, .int .i64 0, .int .i64 0], []⟩ 8 (by kernel_rfl) (by kernel_rfl) (by kernel_rfl) (by kernel_rfl)) ?_
  intro W base args ds gs Cc hval hW _ hz _
  exact Qi0 Tryz.params10 (by kernel_rfl) rfl (fun _ _ _ _ => rfl) laid Q69 Q9t Q45 Q7f (fun zs n d h1 h2 h3 => Ot h1 (by omega) (by omega)) hval hW hz
set_option maxRecDepth 100000 in
set_option maxHeartbeats 8000000 in
theorem closed : joinedFacts Tryz.pinned.checked.prog 10 Tryz.f10 Rows.sortedRanksSpec Rows.sortedRanksRow = true := by
  unfold joinedFacts
  simp only [Bool.and_eq_true]
  repeat' apply And.intro
  all_goals as_aux_lemma => kernel_rfl
theorem named : Tryz.pinned.checked.prog.funcNamed Rows.sortedRanksRow.func = some 10 := by kernel_rfl
theorem inst : Tryz.f10.isInstance Tryz.pinned.checked.prog Rows.sortedRanksRow.origin Rows.sortedRanksRow.targs := of_decide_eq_true (by kernel_rfl)
theorem wrap : Tryz.f10.isWrapper Tryz.pinned.checked.prog Rows.sortedRanksRow.wrapper Rows.sortedRanksRow.mainSum := by
  unfold Func.isWrapper
  first | (rw [if_pos (by decide +kernel)]; kernel_rfl) | (rw [if_neg (by decide +kernel)]; exact ⟨rfl, rfl⟩)
theorem over : Rows.sortedRanksRow.holds Tryz.pinned (OpenSpec.ofChange Rows.sortedRanksSpec) :=
  OpenClaim.holds_of_wide 10 Tryz.f10 rfl rfl rfl rfl rfl rfl rfl ⟨rfl, rfl, rfl, rfl, rfl⟩ rfl rfl rfl rfl rfl named Tryz.func10 closed inst wrap
    (fun os started H enc _ => lifted os started H enc)
theorem proved : Rows.SortedRanksSaid :=
  over
end Go.Proofs.YtbnjginelkkonaaGreat.sortedRanks
