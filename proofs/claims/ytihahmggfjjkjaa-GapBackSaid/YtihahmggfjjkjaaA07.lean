/- If days are told the other way round all is the same of the same days -/
import Derived.Test.YtihahmggfjjkjaaRows
import Derived.Test.YtihahmggfjjkjaaA05
import Derived.Test.YtihahmggfjjkjaaA06
set_option linter.unusedVariables false
set_option linter.unusedSimpArgs false
namespace Go.Proofs.Ytihahmggfjjkjaa
open Go.AM Go.ChangeShapes Go.WideShapes Go.ChangeAt Go.RowKit
set_option maxHeartbeats 1600000 in
set_option maxRecDepth 100000 in
theorem gapBack_lifted (os : Os) (started : os.Started) (H : Type) (enc : TypeId × Value → H) :
    ReturnsInHanded {} Try.checked os 14 .any (Rows.gapBackSpec.pre6 enc Try.prog Try.f14 Rows.gapBackRow.domain false) (Rows.gapBackSpec.post enc Try.prog Try.f14 false true false false) := by
  refine row_lifted (C := Try.checked) (tb := 4) (k := 9) (shs := [shSer]) progOk own started (by kernel_rfl) Try.func14
    (ChangeSpec.witness6 (enc := enc) (C := Try.checked) false ⟨#[], #[.agg #[.slice none 0 0, .int .i64 0, .int .i64 0, .slice none 0 0, .bool false, .slice none 0 0]], []⟩ 8 (by kernel_rfl) (by kernel_rfl) (by kernel_rfl) (by kernel_rfl))
    laidOut (by kernel_rfl) zeroR rfl (by kernel_rfl) (by kernel_rfl) (by kernel_rfl) (fun ds hd => ?_) (fun Ds hD => ?_)
  · match ds, hd with
    | [_], _ => rfl
  · obtain ⟨H1, vl, vg, vf, s, e, hi, hs⟩ := ser_only hD
    obtain ⟨n, v, H', h1, h2⟩ := Back_run (H := H1) (R := fun v _ => v = .bool true) vl vg vf s hi hs fun _ _ => rfl
    rw [e]
    exact ⟨n, H', by rw [← h2]; exact h1⟩
theorem gapBack_holds : Rows.GapBackSaid :=
  OpenClaim.holds_of_wide 14 Try.f14 rfl rfl rfl rfl rfl rfl rfl ⟨rfl, rfl, rfl, rfl, rfl⟩ rfl rfl rfl rfl rfl (by kernel_rfl) Try.func14 (by kernel_rfl)
    (of_decide_eq_true (by kernel_rfl)) (by unfold Func.isWrapper; first | (rw [if_pos (by decide +kernel)]; kernel_rfl) | (rw [if_neg (by decide +kernel)]; exact ⟨rfl, rfl⟩))
    (fun os started H enc _ => gapBack_lifted os started H enc)
#print axioms gapBack_holds
end Go.Proofs.Ytihahmggfjjkjaa
