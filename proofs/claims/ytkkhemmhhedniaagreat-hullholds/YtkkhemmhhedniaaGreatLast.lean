/- ClaimHH -/
import Derived.Test.YtkkhemmhhedniaaGreatPart10
import Derived.Test.YtkkhemmhhedniaaGreatRows
import Derived.JoinedCond
import Derived.Test.YtkkhemmhhedniaaGreatPart00
set_option linter.all false
namespace Go.Proofs.YtkkhemmhhedniaaGreat.hullHolds
open Go Go.Proofs Go.ChangeShapes Go.WideShapes Go.ChangeAt Go.RowKit Orr
theorem own : ownKnob Tryz.prog.godebug = none := by kernel_rfl
theorem laid : laidOutB Tryz.prog = true := by kernel_rfl
theorem Zp0 : Tryz.prog.readableRec 22 = true := by kernel_rfl
theorem Zsl : Tryz.prog.readableRec 3 = true := by kernel_rfl
theorem Znm : 22 < Tryz.prog.types.size := of_decide_eq_true (by kernel_rfl)
theorem Zp6 : 3 < Tryz.prog.types.size := of_decide_eq_true (by kernel_rfl)
set_option maxRecDepth 100000 in
theorem lifted (os : Os) (started : os.Started) (H : Type) (enc : TypeId × Value → H) :
    ReturnsInHanded {} Tryz.checked os 7 .any (Rows.hullHoldsSpec.pre6 enc Tryz.prog Tryz.f7 [] false) (Rows.hullHoldsSpec.post enc Tryz.prog Tryz.f7 false true false false) := by
  refine returnsInHanded_of_change_sized (C := Tryz.checked) own started (by kernel_rfl) Tryz.func7
    (ChangeSpec.witness6 (enc := enc) (C := Tryz.checked) (s := Rows.hullHoldsSpec) false ⟨#[], #[.slice none 0 0, .int .i64 0, .int .i64 0], []⟩ 8 (by kernel_rfl) (by kernel_rfl) (by kernel_rfl) (by kernel_rfl)) ?_
  intro W base args ds gs Sj hval hW _ hz _
  exact Qzo Tryz.params7 (by kernel_rfl) rfl (fun _ _ _ _ => rfl) laid Zp0 Zsl Znm Zp6 (fun zs n d h1 h2 h3 => Qnx h1 (by omega) (by omega)) hval hW hz
set_option maxRecDepth 100000 in
set_option maxHeartbeats 8000000 in
theorem closed : joinedFacts Tryz.pinned.checked.prog 7 Tryz.f7 Rows.hullHoldsSpec Rows.hullHoldsRow = true := by
  unfold joinedFacts
  simp only [Bool.and_eq_true]
  repeat' apply And.intro
  all_goals as_aux_lemma => kernel_rfl
theorem named : Tryz.pinned.checked.prog.funcNamed Rows.hullHoldsRow.func = some 7 := by kernel_rfl
theorem inst : Tryz.f7.isInstance Tryz.pinned.checked.prog Rows.hullHoldsRow.origin Rows.hullHoldsRow.targs := of_decide_eq_true (by kernel_rfl)
theorem wrap : Tryz.f7.isWrapper Tryz.pinned.checked.prog Rows.hullHoldsRow.wrapper Rows.hullHoldsRow.mainSum := by
  unfold Func.isWrapper
  first | (rw [if_pos (by decide +kernel)]; kernel_rfl) | (rw [if_neg (by decide +kernel)]; exact ⟨rfl, rfl⟩)
theorem over : Rows.hullHoldsRow.holds Tryz.pinned (OpenSpec.ofChange Rows.hullHoldsSpec) :=
  OpenClaim.holds_of_wide 7 Tryz.f7 rfl rfl rfl rfl rfl rfl rfl ⟨rfl, rfl, rfl, rfl, rfl⟩ rfl rfl rfl rfl rfl named Tryz.func7 closed inst wrap
    (fun os started H enc _ => lifted os started H enc)
theorem proved : Rows.HullHoldsSaid :=
  over
end Go.Proofs.YtkkhemmhhedniaaGreat.hullHolds
