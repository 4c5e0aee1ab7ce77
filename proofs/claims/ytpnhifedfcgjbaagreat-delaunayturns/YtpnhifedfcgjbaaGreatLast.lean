/- ClaimDT -/
import Derived.Test.YtpnhifedfcgjbaaGreatPart10
import Derived.Test.YtpnhifedfcgjbaaGreatRows
import Derived.JoinedCond
import Derived.Test.YtpnhifedfcgjbaaGreatPart00
set_option linter.all false
namespace Go.Proofs.YtpnhifedfcgjbaaGreat.delaunayTurns
open Go Go.Proofs Go.ChangeShapes Go.WideShapes Go.ChangeAt Go.RowKit Orr
theorem own : ownKnob Tryz.prog.godebug = none := by kernel_rfl
theorem laid : laidOutB Tryz.prog = true := by kernel_rfl
theorem Zmq : Tryz.prog.readableRec 22 = true := by kernel_rfl
theorem Zoy : Tryz.prog.readableRec 3 = true := by kernel_rfl
theorem Zkh : 22 < Tryz.prog.types.size := of_decide_eq_true (by kernel_rfl)
theorem Zmw : 3 < Tryz.prog.types.size := of_decide_eq_true (by kernel_rfl)
set_option maxRecDepth 100000 in
theorem lifted (os : Os) (started : os.Started) (H : Type) (enc : TypeId × Value → H) :
    ReturnsInHanded {} Tryz.checked os 6 .any (Rows.delaunayTurnsSpec.pre6 enc Tryz.prog Tryz.f6 [] false) (Rows.delaunayTurnsSpec.post enc Tryz.prog Tryz.f6 false true false false) := by
  refine returnsInHanded_of_change_sized (C := Tryz.checked) own started (by kernel_rfl) Tryz.func6
    (ChangeSpec.witness6 (enc := enc) (C := Tryz.checked) (s := Rows.delaunayTurnsSpec) false ⟨#[], #[.slice none 0 0, .int .i64 0, .int .i64 0, .int .i64 0], []⟩ 8 (by kernel_rfl) (by kernel_rfl) (by kernel_rfl) (by kernel_rfl)) ?_
  intro W base args ds gs Qvc hval hW _ hz _
  exact Qs2 Tryz.params6 (by kernel_rfl) rfl (fun _ _ _ _ _ => rfl) laid Zmq Zoy Zkh Zmw (fun zs n d k h1 h2 h3 h4 => Qlu h1 (by omega) (by omega) (by omega)) hval hW hz
set_option maxRecDepth 100000 in
set_option maxHeartbeats 8000000 in
theorem closed : joinedFacts Tryz.pinned.checked.prog 6 Tryz.f6 Rows.delaunayTurnsSpec Rows.delaunayTurnsRow = true := by
  unfold joinedFacts
  simp only [Bool.and_eq_true]
  repeat' apply And.intro
  all_goals as_aux_lemma => kernel_rfl
theorem named : Tryz.pinned.checked.prog.funcNamed Rows.delaunayTurnsRow.func = some 6 := by kernel_rfl
theorem inst : Tryz.f6.isInstance Tryz.pinned.checked.prog Rows.delaunayTurnsRow.origin Rows.delaunayTurnsRow.targs := of_decide_eq_true (by kernel_rfl)
theorem wrap : Tryz.f6.isWrapper Tryz.pinned.checked.prog Rows.delaunayTurnsRow.wrapper Rows.delaunayTurnsRow.mainSum := by
  unfold Func.isWrapper
  first | (rw [if_pos (by decide +kernel)]; kernel_rfl) | (rw [if_neg (by decide +kernel)]; exact ⟨rfl, rfl⟩)
theorem over : Rows.delaunayTurnsRow.holds Tryz.pinned (OpenSpec.ofChange Rows.delaunayTurnsSpec) :=
  OpenClaim.holds_of_wide 6 Tryz.f6 rfl rfl rfl rfl rfl rfl rfl ⟨rfl, rfl, rfl, rfl, rfl⟩ rfl rfl rfl rfl rfl named Tryz.func6 closed inst wrap
    (fun os started H enc _ => lifted os started H enc)
theorem proved : Rows.DelaunayTurnsSaid :=
  over
end Go.Proofs.YtpnhifedfcgjbaaGreat.delaunayTurns
