/- ClaimTP -/
import Derived.Test.YtoohlnnpalgnaaaGreatPart10
import Derived.Test.YtoohlnnpalgnaaaGreatPart11
import Derived.Test.YtoohlnnpalgnaaaGreatRows
import Derived.JoinedCond
import Derived.Test.YtoohlnnpalgnaaaGreatPart00
set_option linter.all false
namespace Go.Proofs.YtoohlnnpalgnaaaGreat.topReplans
open Go Go.Proofs Go.ChangeShapes Go.WideShapes Go.ChangeAt Go.RowKit Orr
theorem own : ownKnob Tryz.prog.godebug = none := by kernel_rfl
theorem laid : laidOutB Tryz.prog = true := by kernel_rfl
theorem NF : Tryz.prog.readableRec 3 = true := by kernel_rfl
theorem GN : 3 < Tryz.prog.types.size := of_decide_eq_true (by kernel_rfl)
theorem Qqj : Tryz.prog.readableRec 70 = true := by kernel_rfl
theorem Qk4 : 70 < Tryz.prog.types.size := of_decide_eq_true (by kernel_rfl)
abbrev ps : List (TypeId × (TV → Prop)) := [(3, Qd5), (3, Qd5), (70, Qxl), (3, Qd5), (3, Qd5)]
theorem rds : ∀ q ∈ ps, IR q.1 q.2 := fun q hq => by
  simp only [ps, List.mem_cons, List.not_mem_nil, or_false] at hq
  rcases hq with rfl | rfl | rfl | rfl | rfl
  · exact VX
  · exact VX
  · exact Qdf
  · exact VX
  · exact VX
theorem Q07 : ∀ q ∈ ps, Tryz.prog.readableRec q.1 = true ∧ q.1 < Tryz.prog.types.size := fun q hq => by
  simp only [ps, List.mem_cons, List.not_mem_nil, or_false] at hq
  rcases hq with rfl | rfl | rfl | rfl | rfl
  · exact ⟨NF, GN⟩
  · exact ⟨NF, GN⟩
  · exact ⟨Qqj, Qk4⟩
  · exact ⟨NF, GN⟩
  · exact ⟨NF, GN⟩
theorem Q01 (us : List TV) (h : F2 (fun u (q : TypeId × (TV → Prop)) => q.2 u) us ps) : AB Tryz.prog 9 us [.one (.bool true)] := by
  unfold ps at h
  cases h with
  | cons x0 h =>
    obtain ⟨a0, h0, rfl⟩ := x0
    cases h with
    | cons x1 h =>
      obtain ⟨a1, h1, rfl⟩ := x1
      cases h with
      | cons x2 h =>
        obtain ⟨a2, h2, rfl⟩ := x2
        cases h with
        | cons x3 h =>
          obtain ⟨a3, h3, rfl⟩ := x3
          cases h with
          | cons x4 h =>
            obtain ⟨a4, h4, rfl⟩ := x4
            cases h
            exact AI h0 h1 h2 h3 h4
theorem Qzc (H : Type) (ds : List (DataW H)) (h : ds.length = ps.length) : (Rows.topReplansSpec).fn H ds = { results := [.lit (.bool true)], args := ds } := by
  match ds, h with
  | [_, _, _, _, _], _ => rfl
set_option maxRecDepth 100000 in
theorem lifted (os : Os) (started : os.Started) (H : Type) (enc : TypeId × Value → H) :
    ReturnsInHanded {} Tryz.checked os 9 .any (Rows.topReplansSpec.pre6 enc Tryz.prog Tryz.f9 [] false) (Rows.topReplansSpec.post enc Tryz.prog Tryz.f9 false true false false) := by
  refine returnsInHanded_of_change_sized (C := Tryz.checked) own started (by kernel_rfl) Tryz.func9
    (ChangeSpec.witness6 (enc := enc) (C := Tryz.checked) (s := Rows.topReplansSpec) false ⟨#[], #[.int .i64 0, .int .i64 0, .slice none 0 0, .int .i64 0, .int .i64 0], []⟩ 8 (by kernel_rfl) (by kernel_rfl) (by kernel_rfl) (by kernel_rfl)) ?_
  intro W base args ds gs Tu hval hW _ hz _
  exact Qio (ps := ps) Tryz.params9 (by kernel_rfl) rfl Qzc laid Q07 rds Q01 hval hW hz
set_option maxRecDepth 100000 in
set_option maxHeartbeats 8000000 in
theorem closed : joinedFacts Tryz.pinned.checked.prog 9 Tryz.f9 Rows.topReplansSpec Rows.topReplansRow = true := by
  unfold joinedFacts
  simp only [Bool.and_eq_true]
  repeat' apply And.intro
  all_goals as_aux_lemma => kernel_rfl
theorem named : Tryz.pinned.checked.prog.funcNamed Rows.topReplansRow.func = some 9 := by kernel_rfl
theorem inst : Tryz.f9.isInstance Tryz.pinned.checked.prog Rows.topReplansRow.origin Rows.topReplansRow.targs := of_decide_eq_true (by kernel_rfl)
theorem wrap : Tryz.f9.isWrapper Tryz.pinned.checked.prog Rows.topReplansRow.wrapper Rows.topReplansRow.mainSum := by
  unfold Func.isWrapper
  first | (rw [if_pos (by decide +kernel)]; kernel_rfl) | (rw [if_neg (by decide +kernel)]; exact ⟨rfl, rfl⟩)
theorem over : Rows.topReplansRow.holds Tryz.pinned (OpenSpec.ofChange Rows.topReplansSpec) :=
  OpenClaim.holds_of_wide 9 Tryz.f9 rfl rfl rfl rfl rfl rfl rfl ⟨rfl, rfl, rfl, rfl, rfl⟩ rfl rfl rfl rfl rfl named Tryz.func9 closed inst wrap
    (fun os started H enc _ => lifted os started H enc)
theorem proved : Rows.TopReplansSaid :=
  over
end Go.Proofs.YtoohlnnpalgnaaaGreat.topReplans
