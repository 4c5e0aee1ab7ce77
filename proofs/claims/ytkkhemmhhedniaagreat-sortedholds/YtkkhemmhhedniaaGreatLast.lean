/- ClaimSH -/
import Derived.Test.YtkkhemmhhedniaaGreatPart09
import Derived.Test.YtkkhemmhhedniaaGreatRows
import Derived.JoinedCond
import Derived.Test.YtkkhemmhhedniaaGreatPart00
set_option linter.all false
namespace Go.Proofs.YtkkhemmhhedniaaGreat.sortedHolds
open Go Go.Proofs Go.ChangeShapes Go.WideShapes Go.ChangeAt Go.RowKit Orr
theorem own : ownKnob Tryz.prog.godebug = none := by kernel_rfl
theorem laid : laidOutB Tryz.prog = true := by kernel_rfl
theorem Zjy : Tryz.prog.readableRec 22 = true := by kernel_rfl
theorem Zmk : Tryz.prog.readableRec 3 = true := by kernel_rfl
theorem Zhm : 22 < Tryz.prog.types.size := of_decide_eq_true (by kernel_rfl)
theorem Zj4 : 3 < Tryz.prog.types.size := of_decide_eq_true (by kernel_rfl)
set_option maxRecDepth 100000 in
theorem lifted (os : Os) (started : os.Started) (H : Type) (enc : TypeId × Value → H) :
    ReturnsInHanded {} Tryz.checked os 6 .any (Rows.sortedHoldsSpec.pre6 enc Tryz.prog Tryz.f6 [] false) (Rows.sortedHoldsSpec.post enc Tryz.prog Tryz.f6 false true false false) := by
  refine returnsInHanded_of_change_sized (C := Tryz.checked) own started (by kernel_rfl) Tryz.func6
    (ChangeSpec.witness6 (enc := enc) (C := Tryz.checked) (s := Rows.sortedHoldsSpec) false ⟨#[], #[.slice none 0 0, .int .i64 0, .int .i64 0], []⟩ 8 (by kernel_rfl) (by kernel_rfl) (by kernel_rfl) (by kernel_rfl)) ?_
  intro W base args ds gs P6 hval hW _ hz _
  exact Quc Tryz.params6 (by kernel_rfl) rfl (fun _ _ _ _ => rfl) laid Zjy Zmk Zhm Zj4 (fun zs n d h1 h2 h3 => Qjq h1 (by omega) (by omega)) hval hW hz
set_option maxRecDepth 100000 in
set_option maxHeartbeats 8000000 in
theorem closed : joinedFacts Tryz.pinned.checked.prog 6 Tryz.f6 Rows.sortedHoldsSpec Rows.sortedHoldsRow = true := by
  unfold joinedFacts
  simp only [Bool.and_eq_true]
  repeat' apply And.intro
  all_goals as_aux_lemma => kernel_rfl
theorem named : Tryz.pinned.checked.prog.funcNamed Rows.sortedHoldsRow.func = some 6 := by kernel_rfl
theorem inst : Tryz.f6.isInstance Tryz.pinned.checked.prog Rows.sortedHoldsRow.origin Rows.sortedHoldsRow.targs := of_decide_eq_true (by kernel_rfl)
theorem wrap : Tryz.f6.isWrapper Tryz.pinned.checked.prog Rows.sortedHoldsRow.wrapper Rows.sortedHoldsRow.mainSum := by
  unfold Func.isWrapper
  first | (rw [if_pos (by decide +kernel)]; kernel_rfl) | (rw [if_neg (by decide +kernel)]; exact ⟨rfl, rfl⟩)
theorem over : Rows.sortedHoldsRow.holds Tryz.pinned (OpenSpec.ofChange Rows.sortedHoldsSpec) :=
  OpenClaim.holds_of_wide 6 Tryz.f6 rfl rfl rfl rfl rfl rfl rfl ⟨rfl, rfl, rfl, rfl, rfl⟩ rfl rfl rfl rfl rfl named Tryz.func6 closed inst wrap
    (fun os started H enc _ => lifted os started H enc)
theorem proved : Rows.SortedHoldsSaid :=
  over
end Go.Proofs.YtkkhemmhhedniaaGreat.sortedHolds
