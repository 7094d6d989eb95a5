/- If it is known that there was no group more no number is wider -/
import Derived.Test.YtihahmggfjjkjaaRows
import Derived.Test.YtihahmggfjjkjaaA05
import Derived.Test.YtihahmggfjjkjaaA06
set_option linter.unusedVariables false
set_option linter.unusedSimpArgs false
namespace Go.Proofs.Ytihahmggfjjkjaa
open Go.AM Go.ChangeShapes Go.WideShapes Go.ChangeAt Go.RowKit
set_option maxHeartbeats 1600000 in
set_option maxRecDepth 100000 in
theorem gapNone_lifted (os : Os) (started : os.Started) (H : Type) (enc : TypeId × Value → H) :
    ReturnsInHanded {} Try.checked os 13 .any (Rows.gapNoneSpec.pre6 enc Try.prog Try.f13 Rows.gapNoneRow.domain false) (Rows.gapNoneSpec.post enc Try.prog Try.f13 false true false false) := by
  refine row_lifted (C := Try.checked) (tb := 4) (k := 9) (shs := [shSer]) progOk own started (by kernel_rfl) Try.func13
    (ChangeSpec.witness6 (enc := enc) (C := Try.checked) false ⟨#[], #[.agg #[.slice none 0 0, .int .i64 0, .int .i64 0, .slice none 0 0, .bool false, .slice none 0 0]], []⟩ 8 (by kernel_rfl) (by kernel_rfl) (by kernel_rfl) (by kernel_rfl))
    laidOut (by kernel_rfl) zeroR rfl (by kernel_rfl) (by kernel_rfl) (by kernel_rfl) (fun ds hd => ?_) (fun Ds hD => ?_)
  · match ds, hd with
    | [_], _ => rfl
  · obtain ⟨H1, vl, vg, vf, s, e, hi, hs⟩ := ser_only hD
    obtain ⟨n, v, H', h1, h2⟩ := None_run (H := H1) (R := fun v _ => v = .bool true) vl vg vf s hi hs fun _ _ => rfl
    rw [e]
    exact ⟨n, H', by rw [← h2]; exact h1⟩
theorem gapNone_holds : Rows.GapNoneSaid :=
  OpenClaim.holds_of_wide 13 Try.f13 rfl rfl rfl rfl rfl rfl rfl ⟨rfl, rfl, rfl, rfl, rfl⟩ rfl rfl rfl rfl rfl (by kernel_rfl) Try.func13 (by kernel_rfl)
    (of_decide_eq_true (by kernel_rfl)) (by unfold Func.isWrapper; first | (rw [if_pos (by decide +kernel)]; kernel_rfl) | (rw [if_neg (by decide +kernel)]; exact ⟨rfl, rfl⟩))
    (fun os started H enc _ => gapNone_lifted os started H enc)
#print axioms gapNone_holds
end Go.Proofs.Ytihahmggfjjkjaa
