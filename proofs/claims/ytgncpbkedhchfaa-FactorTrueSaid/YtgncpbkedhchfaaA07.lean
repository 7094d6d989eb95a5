/- The row FactorTrue: counts as any past makes them deny nothing of that past, for every house and past. -/
import Derived.Test.YtgncpbkedhchfaaRows
import Derived.Test.YtgncpbkedhchfaaA05
import Derived.Test.YtgncpbkedhchfaaA06
set_option linter.unusedVariables false
set_option linter.unusedSimpArgs false
namespace Go.Proofs.Ytgncpbkedhchfaa
open Go.AM Go.ChangeShapes Go.WideShapes Go.ChangeAt Go.RowKit
set_option maxHeartbeats 1600000 in
set_option maxRecDepth 100000 in
theorem factorTrue_lifted (os : Os) (started : os.Started) (H : Type) (enc : TypeId × Value → H) :
    ReturnsInHanded {} Try.checked os 8 .any (Rows.factorTrueSpec.pre6 enc Try.prog Try.f8 Rows.factorTrueRow.domain false) (Rows.factorTrueSpec.post enc Try.prog Try.f8 false true false false) := by
  refine row_lifted (C := Try.checked) (tb := 4) (k := 9) (shs := [shHouse, shPast]) progOk own started (by kernel_rfl) Try.func8
    (ChangeSpec.witness6 (enc := enc) (C := Try.checked) false ⟨#[], #[.agg #[.slice none 0 0, .slice none 0 0], .agg #[.slice none 0 0, .slice none 0 0, .slice none 0 0]], []⟩ 8 (by kernel_rfl) (by kernel_rfl) (by kernel_rfl) (by kernel_rfl))
    laidOut (by kernel_rfl) zeroR rfl (by kernel_rfl) (by kernel_rfl) (by kernel_rfl) (fun ds hd => ?_) (fun Ds hD => ?_)
  · match ds, hd with
    | [_, _], _ => rfl
  · obtain ⟨H1, v1, v2, g, p1, p2, p3, l1, l2, l3, e, hi, hs, s1, s2, s3, z1, z2, z3, r1, r2, r3⟩ := house_past hD
    obtain ⟨n, v, H', h1, h2⟩ := True_run (H := H1) (R := fun v _ => v = .bool true) v1 v2 p1 p2 p3 g l1 l2 l3 hi hs s1 s2 s3 z1 z2 z3 r1 r2 r3 fun _ _ => rfl
    rw [e]
    exact ⟨n, H', by rw [← h2]; exact h1⟩
theorem factorTrue_holds : Rows.FactorTrueSaid :=
  OpenClaim.holds_of_wide 8 Try.f8 rfl rfl rfl rfl rfl rfl rfl ⟨rfl, rfl, rfl, rfl, rfl⟩ rfl rfl rfl rfl rfl (by kernel_rfl) Try.func8 (by kernel_rfl)
    (of_decide_eq_true (by kernel_rfl)) (by unfold Func.isWrapper; first | (rw [if_pos (by decide +kernel)]; kernel_rfl) | (rw [if_neg (by decide +kernel)]; exact ⟨rfl, rfl⟩))
    (fun os started H enc _ => factorTrue_lifted os started H enc)
#print axioms factorTrue_holds
end Go.Proofs.Ytgncpbkedhchfaa
