/- The row FactorWider: with a greater Off nothing is narrower, and with days the other way round all is the same, for every house, observer and number. -/
import Derived.Test.YtgncpbkedhchfaaRows
import Derived.Test.YtgncpbkedhchfaaA05
import Derived.Test.YtgncpbkedhchfaaA06
set_option linter.unusedVariables false
set_option linter.unusedSimpArgs false
namespace Go.Proofs.Ytgncpbkedhchfaa
open Go.AM Go.ChangeShapes Go.WideShapes Go.ChangeAt Go.RowKit
set_option maxHeartbeats 1600000 in
set_option maxRecDepth 100000 in
theorem factorWider_lifted (os : Os) (started : os.Started) (H : Type) (enc : TypeId × Value → H) :
    ReturnsInHanded {} Try.checked os 15 .any (Rows.factorWiderSpec.pre6 enc Try.prog Try.f15 Rows.factorWiderRow.domain false) (Rows.factorWiderSpec.post enc Try.prog Try.f15 false true false false) := by
  refine row_lifted (C := Try.checked) (tb := 4) (k := 9) (shs := [shHouse, shU8x2]) progOk own started (by kernel_rfl) Try.func15
    (ChangeSpec.witness6 (enc := enc) (C := Try.checked) false ⟨#[], #[.agg #[.slice none 0 0, .slice none 0 0], .agg #[.int .u8 0, .int .u8 0]], []⟩ 8 (by kernel_rfl) (by kernel_rfl) (by kernel_rfl) (by kernel_rfl))
    laidOut (by kernel_rfl) zeroR rfl (by kernel_rfl) (by kernel_rfl) (by kernel_rfl) (fun ds hd => ?_) (fun Ds hD => ?_)
  · match ds, hd with
    | [_, _], _ => rfl
  · obtain ⟨H1, v1, v2, g, x, y, e, hi, hs, hx, hy⟩ := house_u8x2 hD
    obtain ⟨n, v, H', h1, h2⟩ := Wider_run (H := H1) (R := fun v _ => v = .bool true) v1 v2 g x y hx hy hi hs fun _ _ => rfl
    rw [e]
    exact ⟨n, H', by rw [← h2]; exact h1⟩
theorem factorWider_holds : Rows.FactorWiderSaid :=
  OpenClaim.holds_of_wide 15 Try.f15 rfl rfl rfl rfl rfl rfl rfl ⟨rfl, rfl, rfl, rfl, rfl⟩ rfl rfl rfl rfl rfl (by kernel_rfl) Try.func15 (by kernel_rfl)
    (of_decide_eq_true (by kernel_rfl)) (by unfold Func.isWrapper; first | (rw [if_pos (by decide +kernel)]; kernel_rfl) | (rw [if_neg (by decide +kernel)]; exact ⟨rfl, rfl⟩))
    (fun os started H enc _ => factorWider_lifted os started H enc)
#print axioms factorWider_holds
end Go.Proofs.Ytgncpbkedhchfaa
