/- ClaimST -/
import Derived.Test.YtbnjginelkkonaaGreatPart10
import Derived.Test.YtbnjginelkkonaaGreatRows
import Derived.JoinedCond
set_option linter.all false

namespace Go.Proofs.YtbnjginelkkonaaGreat.sortedTurns
open Go Go.Proofs Go.ChangeShapes Go.WideShapes Go.ChangeAt Go.RowKit Orr
theorem own : ownKnob Tryz.prog.godebug = none := by kernel_rfl
theorem laid : laidOutB Tryz.prog = true := by kernel_rfl
theorem Zai : Tryz.prog.readableRec 24 = true := by kernel_rfl
theorem Zc4 : Tryz.prog.readableRec 3 = true := by kernel_rfl
theorem Q8b : 24 < Tryz.prog.types.size := of_decide_eq_true (by kernel_rfl)
theorem Zao : 3 < Tryz.prog.types.size := of_decide_eq_true (by kernel_rfl)
set_option maxRecDepth 100000 in
theorem lifted (os : Os) (started : os.Started) (H : Type) (enc : TypeId × Value → H) :
    ReturnsInHanded {} Tryz.checked os 14 .any (Rows.sortedTurnsSpec.pre6 enc Tryz.prog Tryz.f14 [] false) (Rows.sortedTurnsSpec.post enc Tryz.prog Tryz.f14 false true false false) := by
  refine returnsInHanded_of_change_sized (C := Tryz.checked) own started (by kernel_rfl) Tryz.func14
    (ChangeSpec.witness6 (enc := enc) (C := Tryz.checked) (s := Rows.sortedTurnsSpec) false ⟨#[], #[.slice none 0 0, .int .i64 0, .int .i64 0, .int .i64 0], []⟩ 8 (by kernel_rfl) (by kernel_rfl) (by kernel_rfl) (by kernel_rfl)) ?_
  intro W base args ds gs Vs hval hW _ hz _
  exact Qh6 Tryz.params14 (by kernel_rfl) rfl (fun _ _ _ _ _ => rfl) laid Zai Zc4 Q8b Zao (fun zs n d k h1 h2 h3 h4 => Qbo h1 (by omega) (by omega) (by omega)) hval hW hz
set_option maxRecDepth 100000 in
set_option maxHeartbeats 8000000 in
theorem closed : joinedFacts Tryz.pinned.checked.prog 14 Tryz.f14 Rows.sortedTurnsSpec Rows.sortedTurnsRow = true := by
  unfold joinedFacts
  simp only [Bool.and_eq_true]
  repeat' apply And.intro
  all_goals as_aux_lemma => kernel_rfl
theorem named : Tryz.pinned.checked.prog.funcNamed Rows.sortedTurnsRow.func = some 14 := by kernel_rfl
theorem inst : Tryz.f14.isInstance Tryz.pinned.checked.prog Rows.sortedTurnsRow.origin Rows.sortedTurnsRow.targs := of_decide_eq_true (by kernel_rfl)
theorem wrap : Tryz.f14.isWrapper Tryz.pinned.checked.prog Rows.sortedTurnsRow.wrapper Rows.sortedTurnsRow.mainSum := by
  unfold Func.isWrapper
  first | (rw [if_pos (by decide +kernel)]; kernel_rfl) | (rw [if_neg (by decide +kernel)]; exact ⟨rfl, rfl⟩)
theorem over : Rows.sortedTurnsRow.holds Tryz.pinned (OpenSpec.ofChange Rows.sortedTurnsSpec) :=
  OpenClaim.holds_of_wide 14 Tryz.f14 rfl rfl rfl rfl rfl rfl rfl ⟨rfl, rfl, rfl, rfl, rfl⟩ rfl rfl rfl rfl rfl named Tryz.func14 closed inst wrap
    (fun os started H enc _ => lifted os started H enc)
theorem proved : Rows.SortedTurnsSaid :=
  over
end Go.Proofs.YtbnjginelkkonaaGreat.sortedTurns
