/-
  No cell of these rows narrows 'for every input' (looked for: loops, veiled, ifaces, maps, wideKeys, modest, calm, conditions, laid).
  DERIVED. THE GIVEN ROWS OF THIS SEAT. 13 by the template 'for every input the law returns true; each argument reads behind the call as it read before'; 0 by the template 'total and deterministic' (their statements: YtgncpbkedhchfaaTotals.lean).
  GIVEN WITH THE SEED: the statements are not yours to turn. If you find one false, say at which input.
  Laid BY PROGRAM, IN A SANDBOX (cutbox-rows.mjs): the forced cells as the released guide's own fill.sh prints them over the translation e8d1ca4760e1deb5… (all of the seat's roots in one cut). By AI agents, Wed Nov 11 2026. No macro, syntax, notation, axiom, sorry.
-/
import Derived.Test.YtgncpbkedhchfaaChecked
import GoSem.Claim
import GoSem.ClaimJoined
import GoSem.ClaimMapViews
import Derived.JoinedTies
import Derived.KernelRfl
namespace Go.Proofs.Ytgncpbkedhchfaa
/- THE CELL 'sum', in the pinned program and in every row, IS THE sha256 OF THE DUMP (.gsa) THAT YtgncpbkedhchfaaProg.lean LOADS. Nothing in Lean hashes anything: it is a label: what it is worth is what the hold of that sum in a sandbox is worth. -/
noncomputable def Try.pinned : Pinned := { name := "ytgncpbkedhchfaa", sum := "e8d1ca4760e1deb57b99793c903ea1903cbf2a950b23503eeccdff12b6440eb0", checked := Try.checked }
namespace Rows
def none {H : Type} : Left H := { results := [], args := [] }

/-- 'helioscopelaw02.FactorSpans': WHATEVER THE INPUT: true; the input reads as it did. -/
def factorSpansSpec : ChangeSpec := { name := "factorSpans", fn := fun _ => fun
  | [d1, d2] => { results := [.lit (.bool true)], args := [d1, d2] }
  | _ => none }
def factorSpansRow : OpenClaim := { program := "ytgncpbkedhchfaa", sum := "e8d1ca4760e1deb57b99793c903ea1903cbf2a950b23503eeccdff12b6440eb0", func := "helioscope/helioscopelaw02.FactorSpans", spec := "factorSpans", unfollowed := true, recurses := true, plainKeys := false, apart := false }
def FactorSpansSaid : Prop := factorSpansRow.holds Try.pinned (OpenSpec.ofChange factorSpansSpec)

/-- ITS FALSE NEIGHBOUR: 'it returns false'. Refute it at one input. -/
def factorSpansWrong : ChangeSpec := { name := "factorSpans", fn := fun _ => fun
  | [d1, d2] => { results := [.lit (.bool false)], args := [d1, d2] }
  | _ => none }
def FactorSpansWrongFalsely : Prop := factorSpansRow.holds Try.pinned (OpenSpec.ofChange factorSpansWrong)

/-- 'helioscopelaw02.FactorWoulds': WHATEVER THE INPUT: true; the input reads as it did. -/
def factorWouldsSpec : ChangeSpec := { name := "factorWoulds", fn := fun _ => fun
  | [d1, d2] => { results := [.lit (.bool true)], args := [d1, d2] }
  | _ => none }
def factorWouldsRow : OpenClaim := { program := "ytgncpbkedhchfaa", sum := "e8d1ca4760e1deb57b99793c903ea1903cbf2a950b23503eeccdff12b6440eb0", func := "helioscope/helioscopelaw02.FactorWoulds", spec := "factorWoulds", unfollowed := true, recurses := true, plainKeys := false, apart := false }
def FactorWouldsSaid : Prop := factorWouldsRow.holds Try.pinned (OpenSpec.ofChange factorWouldsSpec)

/-- ITS FALSE NEIGHBOUR: 'it returns false'. Refute it at one input. -/
def factorWouldsWrong : ChangeSpec := { name := "factorWoulds", fn := fun _ => fun
  | [d1, d2] => { results := [.lit (.bool false)], args := [d1, d2] }
  | _ => none }
def FactorWouldsWrongFalsely : Prop := factorWouldsRow.holds Try.pinned (OpenSpec.ofChange factorWouldsWrong)

/-- 'helioscopelaw02.FactorBetweens': WHATEVER THE INPUT: true; the input reads as it did. -/
def factorBetweensSpec : ChangeSpec := { name := "factorBetweens", fn := fun _ => fun
  | [d1, d2] => { results := [.lit (.bool true)], args := [d1, d2] }
  | _ => none }
def factorBetweensRow : OpenClaim := { program := "ytgncpbkedhchfaa", sum := "e8d1ca4760e1deb57b99793c903ea1903cbf2a950b23503eeccdff12b6440eb0", func := "helioscope/helioscopelaw02.FactorBetweens", spec := "factorBetweens", unfollowed := true, recurses := true, plainKeys := false, apart := false }
def FactorBetweensSaid : Prop := factorBetweensRow.holds Try.pinned (OpenSpec.ofChange factorBetweensSpec)

/-- ITS FALSE NEIGHBOUR: 'it returns false'. Refute it at one input. -/
def factorBetweensWrong : ChangeSpec := { name := "factorBetweens", fn := fun _ => fun
  | [d1, d2] => { results := [.lit (.bool false)], args := [d1, d2] }
  | _ => none }
def FactorBetweensWrongFalsely : Prop := factorBetweensRow.holds Try.pinned (OpenSpec.ofChange factorBetweensWrong)

/-- 'helioscopelaw02.FactorWrongs': WHATEVER THE INPUT: true; the input reads as it did. -/
def factorWrongsSpec : ChangeSpec := { name := "factorWrongs", fn := fun _ => fun
  | [d] => { results := [.lit (.bool true)], args := [d] }
  | _ => none }
def factorWrongsRow : OpenClaim := { program := "ytgncpbkedhchfaa", sum := "e8d1ca4760e1deb57b99793c903ea1903cbf2a950b23503eeccdff12b6440eb0", func := "helioscope/helioscopelaw02.FactorWrongs", spec := "factorWrongs", unfollowed := true, recurses := true, plainKeys := false, apart := false }
def FactorWrongsSaid : Prop := factorWrongsRow.holds Try.pinned (OpenSpec.ofChange factorWrongsSpec)

/-- ITS FALSE NEIGHBOUR: 'it returns false'. Refute it at one input. -/
def factorWrongsWrong : ChangeSpec := { name := "factorWrongs", fn := fun _ => fun
  | [d] => { results := [.lit (.bool false)], args := [d] }
  | _ => none }
def FactorWrongsWrongFalsely : Prop := factorWrongsRow.holds Try.pinned (OpenSpec.ofChange factorWrongsWrong)

/-- 'helioscopelaw02.FactorKnown': WHATEVER THE INPUT: true; the input reads as it did. -/
def factorKnownSpec : ChangeSpec := { name := "factorKnown", fn := fun _ => fun
  | [] => { results := [.lit (.bool true)], args := [] }
  | _ => none }
def factorKnownRow : OpenClaim := { program := "ytgncpbkedhchfaa", sum := "e8d1ca4760e1deb57b99793c903ea1903cbf2a950b23503eeccdff12b6440eb0", func := "helioscope/helioscopelaw02.FactorKnown", spec := "factorKnown", unfollowed := true, recurses := true, plainKeys := false, apart := false }
def FactorKnownSaid : Prop := factorKnownRow.holds Try.pinned (OpenSpec.ofChange factorKnownSpec)

/-- ITS FALSE NEIGHBOUR: 'it returns false'. Refute it at one input. -/
def factorKnownWrong : ChangeSpec := { name := "factorKnown", fn := fun _ => fun
  | [] => { results := [.lit (.bool false)], args := [] }
  | _ => none }
def FactorKnownWrongFalsely : Prop := factorKnownRow.holds Try.pinned (OpenSpec.ofChange factorKnownWrong)

/-- 'helioscopelaw02.FactorTrue': WHATEVER THE INPUT: true; the input reads as it did. -/
def factorTrueSpec : ChangeSpec := { name := "factorTrue", fn := fun _ => fun
  | [d1, d2] => { results := [.lit (.bool true)], args := [d1, d2] }
  | _ => none }
def factorTrueRow : OpenClaim := { program := "ytgncpbkedhchfaa", sum := "e8d1ca4760e1deb57b99793c903ea1903cbf2a950b23503eeccdff12b6440eb0", func := "helioscope/helioscopelaw02.FactorTrue", spec := "factorTrue", unfollowed := true, recurses := true, plainKeys := false, apart := false }
def FactorTrueSaid : Prop := factorTrueRow.holds Try.pinned (OpenSpec.ofChange factorTrueSpec)

/-- ITS FALSE NEIGHBOUR: 'it returns false'. Refute it at one input. -/
def factorTrueWrong : ChangeSpec := { name := "factorTrue", fn := fun _ => fun
  | [d1, d2] => { results := [.lit (.bool false)], args := [d1, d2] }
  | _ => none }
def FactorTrueWrongFalsely : Prop := factorTrueRow.holds Try.pinned (OpenSpec.ofChange factorTrueWrong)

/-- 'helioscopelaw02.FactorChain': WHATEVER THE INPUT: true; the input reads as it did. -/
def factorChainSpec : ChangeSpec := { name := "factorChain", fn := fun _ => fun
  | [d1, d2] => { results := [.lit (.bool true)], args := [d1, d2] }
  | _ => none }
def factorChainRow : OpenClaim := { program := "ytgncpbkedhchfaa", sum := "e8d1ca4760e1deb57b99793c903ea1903cbf2a950b23503eeccdff12b6440eb0", func := "helioscope/helioscopelaw02.FactorChain", spec := "factorChain", unfollowed := true, recurses := true, plainKeys := false, apart := false }
def FactorChainSaid : Prop := factorChainRow.holds Try.pinned (OpenSpec.ofChange factorChainSpec)

/-- ITS FALSE NEIGHBOUR: 'it returns false'. Refute it at one input. -/
def factorChainWrong : ChangeSpec := { name := "factorChain", fn := fun _ => fun
  | [d1, d2] => { results := [.lit (.bool false)], args := [d1, d2] }
  | _ => none }
def FactorChainWrongFalsely : Prop := factorChainRow.holds Try.pinned (OpenSpec.ofChange factorChainWrong)

/-- 'helioscopelaw02.FactorFewest': WHATEVER THE INPUT: true; the input reads as it did. -/
def factorFewestSpec : ChangeSpec := { name := "factorFewest", fn := fun _ => fun
  | [d1, d2] => { results := [.lit (.bool true)], args := [d1, d2] }
  | _ => none }
def factorFewestRow : OpenClaim := { program := "ytgncpbkedhchfaa", sum := "e8d1ca4760e1deb57b99793c903ea1903cbf2a950b23503eeccdff12b6440eb0", func := "helioscope/helioscopelaw02.FactorFewest", spec := "factorFewest", unfollowed := true, recurses := true, plainKeys := false, apart := false }
def FactorFewestSaid : Prop := factorFewestRow.holds Try.pinned (OpenSpec.ofChange factorFewestSpec)

/-- ITS FALSE NEIGHBOUR: 'it returns false'. Refute it at one input. -/
def factorFewestWrong : ChangeSpec := { name := "factorFewest", fn := fun _ => fun
  | [d1, d2] => { results := [.lit (.bool false)], args := [d1, d2] }
  | _ => none }
def FactorFewestWrongFalsely : Prop := factorFewestRow.holds Try.pinned (OpenSpec.ofChange factorFewestWrong)

/-- 'helioscopelaw02.FactorMore': WHATEVER THE INPUT: true; the input reads as it did. -/
def factorMoreSpec : ChangeSpec := { name := "factorMore", fn := fun _ => fun
  | [d1, d2] => { results := [.lit (.bool true)], args := [d1, d2] }
  | _ => none }
def factorMoreRow : OpenClaim := { program := "ytgncpbkedhchfaa", sum := "e8d1ca4760e1deb57b99793c903ea1903cbf2a950b23503eeccdff12b6440eb0", func := "helioscope/helioscopelaw02.FactorMore", spec := "factorMore", unfollowed := true, recurses := true, plainKeys := false, apart := false }
def FactorMoreSaid : Prop := factorMoreRow.holds Try.pinned (OpenSpec.ofChange factorMoreSpec)

/-- ITS FALSE NEIGHBOUR: 'it returns false'. Refute it at one input. -/
def factorMoreWrong : ChangeSpec := { name := "factorMore", fn := fun _ => fun
  | [d1, d2] => { results := [.lit (.bool false)], args := [d1, d2] }
  | _ => none }
def FactorMoreWrongFalsely : Prop := factorMoreRow.holds Try.pinned (OpenSpec.ofChange factorMoreWrong)

/-- 'helioscopelaw02.FactorWould': WHATEVER THE INPUT: true; the input reads as it did. -/
def factorWouldSpec : ChangeSpec := { name := "factorWould", fn := fun _ => fun
  | [d1, d2] => { results := [.lit (.bool true)], args := [d1, d2] }
  | _ => none }
def factorWouldRow : OpenClaim := { program := "ytgncpbkedhchfaa", sum := "e8d1ca4760e1deb57b99793c903ea1903cbf2a950b23503eeccdff12b6440eb0", func := "helioscope/helioscopelaw02.FactorWould", spec := "factorWould", unfollowed := true, recurses := true, plainKeys := false, apart := false }
def FactorWouldSaid : Prop := factorWouldRow.holds Try.pinned (OpenSpec.ofChange factorWouldSpec)

/-- ITS FALSE NEIGHBOUR: 'it returns false'. Refute it at one input. -/
def factorWouldWrong : ChangeSpec := { name := "factorWould", fn := fun _ => fun
  | [d1, d2] => { results := [.lit (.bool false)], args := [d1, d2] }
  | _ => none }
def FactorWouldWrongFalsely : Prop := factorWouldRow.holds Try.pinned (OpenSpec.ofChange factorWouldWrong)

/-- 'helioscopelaw02.FactorNext': WHATEVER THE INPUT: true; the input reads as it did. -/
def factorNextSpec : ChangeSpec := { name := "factorNext", fn := fun _ => fun
  | [d1, d2] => { results := [.lit (.bool true)], args := [d1, d2] }
  | _ => none }
def factorNextRow : OpenClaim := { program := "ytgncpbkedhchfaa", sum := "e8d1ca4760e1deb57b99793c903ea1903cbf2a950b23503eeccdff12b6440eb0", func := "helioscope/helioscopelaw02.FactorNext", spec := "factorNext", unfollowed := true, recurses := true, plainKeys := false, apart := false }
def FactorNextSaid : Prop := factorNextRow.holds Try.pinned (OpenSpec.ofChange factorNextSpec)

/-- ITS FALSE NEIGHBOUR: 'it returns false'. Refute it at one input. -/
def factorNextWrong : ChangeSpec := { name := "factorNext", fn := fun _ => fun
  | [d1, d2] => { results := [.lit (.bool false)], args := [d1, d2] }
  | _ => none }
def FactorNextWrongFalsely : Prop := factorNextRow.holds Try.pinned (OpenSpec.ofChange factorNextWrong)

/-- 'helioscopelaw02.FactorAlone': WHATEVER THE INPUT: true; the input reads as it did. -/
def factorAloneSpec : ChangeSpec := { name := "factorAlone", fn := fun _ => fun
  | [d1, d2] => { results := [.lit (.bool true)], args := [d1, d2] }
  | _ => none }
def factorAloneRow : OpenClaim := { program := "ytgncpbkedhchfaa", sum := "e8d1ca4760e1deb57b99793c903ea1903cbf2a950b23503eeccdff12b6440eb0", func := "helioscope/helioscopelaw02.FactorAlone", spec := "factorAlone", unfollowed := true, recurses := true, plainKeys := false, apart := false }
def FactorAloneSaid : Prop := factorAloneRow.holds Try.pinned (OpenSpec.ofChange factorAloneSpec)

/-- ITS FALSE NEIGHBOUR: 'it returns false'. Refute it at one input. -/
def factorAloneWrong : ChangeSpec := { name := "factorAlone", fn := fun _ => fun
  | [d1, d2] => { results := [.lit (.bool false)], args := [d1, d2] }
  | _ => none }
def FactorAloneWrongFalsely : Prop := factorAloneRow.holds Try.pinned (OpenSpec.ofChange factorAloneWrong)

/-- 'helioscopelaw02.FactorWider': WHATEVER THE INPUT: true; the input reads as it did. -/
def factorWiderSpec : ChangeSpec := { name := "factorWider", fn := fun _ => fun
  | [d1, d2] => { results := [.lit (.bool true)], args := [d1, d2] }
  | _ => none }
def factorWiderRow : OpenClaim := { program := "ytgncpbkedhchfaa", sum := "e8d1ca4760e1deb57b99793c903ea1903cbf2a950b23503eeccdff12b6440eb0", func := "helioscope/helioscopelaw02.FactorWider", spec := "factorWider", unfollowed := true, recurses := true, plainKeys := false, apart := false }
def FactorWiderSaid : Prop := factorWiderRow.holds Try.pinned (OpenSpec.ofChange factorWiderSpec)

/-- ITS FALSE NEIGHBOUR: 'it returns false'. Refute it at one input. -/
def factorWiderWrong : ChangeSpec := { name := "factorWider", fn := fun _ => fun
  | [d1, d2] => { results := [.lit (.bool false)], args := [d1, d2] }
  | _ => none }
def FactorWiderWrongFalsely : Prop := factorWiderRow.holds Try.pinned (OpenSpec.ofChange factorWiderWrong)

/- THE SECOND FORM. 'bulk': how many values and letters a reading holds, each counted each time it is reached (what is shared counts as often as it is met; a slice's spare places count too). A statement '..UptoSaid' is the law's where the arguments, and the package variables that the reading takes, are together of bulk at most 1048576: NARROWER than '..Said'. Prove '..Said' where nothing that the law and all that it calls make is longer than what came in: it says more and counts as full. Else prove '..UptoSaid'. A law counts once. -/
mutual
def uptoBulk {H : Type} : DataW H → Nat
  | .lit (.string bytes) => bytes.length + 1
  | .lit _ => 1
  | .nil => 1
  | .ptr d => uptoBulk d + 1
  | .slice elems spare => uptoBulkAll elems + uptoBulkAll spare + 1
  | .agg parts => uptoBulkAll parts + 1
  | .iface _ d => uptoBulk d + 1
  | .map entries => uptoBulkEntries entries + 1
  | .held _ => 1
def uptoBulkAll {H : Type} : List (DataW H) → Nat
  | [] => 0
  | d :: r => uptoBulk d + uptoBulkAll r
def uptoBulkEntries {H : Type} : List (Lit × DataW H) → Nat
  | [] => 0
  | x :: r => uptoBulkEntry x + uptoBulkEntries r
def uptoBulkEntry {H : Type} : Lit × DataW H → Nat
  | (.string bytes, d) => bytes.length + uptoBulk d + 1
  | (_, d) => uptoBulk d + 1
 end
def uptoSmall : (H : Type) → List (DataW H) → Bool := fun _ ds => decide (uptoBulkAll ds ≤ 1048576)
def OpenSpec.upto (s : _root_.Go.ChangeSpec) : _root_.Go.OpenSpec := { _root_.Go.OpenSpec.ofChange s with cond := some uptoSmall }

/-- 'helioscopelaw02.FactorSpans', WHERE WHAT IT READS IS OF BULK AT MOST 1048576: true; the input reads as it did. -/
def factorSpansUptoRow : OpenClaim := { program := "ytgncpbkedhchfaa", sum := "e8d1ca4760e1deb57b99793c903ea1903cbf2a950b23503eeccdff12b6440eb0", func := "helioscope/helioscopelaw02.FactorSpans", spec := "factorSpans", unfollowed := true, recurses := true, plainKeys := false, apart := false, narrowed := true }
def FactorSpansUptoSaid : Prop := factorSpansUptoRow.holds Try.pinned (OpenSpec.upto factorSpansSpec)

/-- 'helioscopelaw02.FactorWoulds', WHERE WHAT IT READS IS OF BULK AT MOST 1048576: true; the input reads as it did. -/
def factorWouldsUptoRow : OpenClaim := { program := "ytgncpbkedhchfaa", sum := "e8d1ca4760e1deb57b99793c903ea1903cbf2a950b23503eeccdff12b6440eb0", func := "helioscope/helioscopelaw02.FactorWoulds", spec := "factorWoulds", unfollowed := true, recurses := true, plainKeys := false, apart := false, narrowed := true }
def FactorWouldsUptoSaid : Prop := factorWouldsUptoRow.holds Try.pinned (OpenSpec.upto factorWouldsSpec)

/-- 'helioscopelaw02.FactorBetweens', WHERE WHAT IT READS IS OF BULK AT MOST 1048576: true; the input reads as it did. -/
def factorBetweensUptoRow : OpenClaim := { program := "ytgncpbkedhchfaa", sum := "e8d1ca4760e1deb57b99793c903ea1903cbf2a950b23503eeccdff12b6440eb0", func := "helioscope/helioscopelaw02.FactorBetweens", spec := "factorBetweens", unfollowed := true, recurses := true, plainKeys := false, apart := false, narrowed := true }
def FactorBetweensUptoSaid : Prop := factorBetweensUptoRow.holds Try.pinned (OpenSpec.upto factorBetweensSpec)

/-- 'helioscopelaw02.FactorWrongs', WHERE WHAT IT READS IS OF BULK AT MOST 1048576: true; the input reads as it did. -/
def factorWrongsUptoRow : OpenClaim := { program := "ytgncpbkedhchfaa", sum := "e8d1ca4760e1deb57b99793c903ea1903cbf2a950b23503eeccdff12b6440eb0", func := "helioscope/helioscopelaw02.FactorWrongs", spec := "factorWrongs", unfollowed := true, recurses := true, plainKeys := false, apart := false, narrowed := true }
def FactorWrongsUptoSaid : Prop := factorWrongsUptoRow.holds Try.pinned (OpenSpec.upto factorWrongsSpec)

/-- 'helioscopelaw02.FactorKnown', WHERE WHAT IT READS IS OF BULK AT MOST 1048576: true; the input reads as it did. -/
def factorKnownUptoRow : OpenClaim := { program := "ytgncpbkedhchfaa", sum := "e8d1ca4760e1deb57b99793c903ea1903cbf2a950b23503eeccdff12b6440eb0", func := "helioscope/helioscopelaw02.FactorKnown", spec := "factorKnown", unfollowed := true, recurses := true, plainKeys := false, apart := false, narrowed := true }
def FactorKnownUptoSaid : Prop := factorKnownUptoRow.holds Try.pinned (OpenSpec.upto factorKnownSpec)

/-- 'helioscopelaw02.FactorTrue', WHERE WHAT IT READS IS OF BULK AT MOST 1048576: true; the input reads as it did. -/
def factorTrueUptoRow : OpenClaim := { program := "ytgncpbkedhchfaa", sum := "e8d1ca4760e1deb57b99793c903ea1903cbf2a950b23503eeccdff12b6440eb0", func := "helioscope/helioscopelaw02.FactorTrue", spec := "factorTrue", unfollowed := true, recurses := true, plainKeys := false, apart := false, narrowed := true }
def FactorTrueUptoSaid : Prop := factorTrueUptoRow.holds Try.pinned (OpenSpec.upto factorTrueSpec)

/-- 'helioscopelaw02.FactorChain', WHERE WHAT IT READS IS OF BULK AT MOST 1048576: true; the input reads as it did. -/
def factorChainUptoRow : OpenClaim := { program := "ytgncpbkedhchfaa", sum := "e8d1ca4760e1deb57b99793c903ea1903cbf2a950b23503eeccdff12b6440eb0", func := "helioscope/helioscopelaw02.FactorChain", spec := "factorChain", unfollowed := true, recurses := true, plainKeys := false, apart := false, narrowed := true }
def FactorChainUptoSaid : Prop := factorChainUptoRow.holds Try.pinned (OpenSpec.upto factorChainSpec)

/-- 'helioscopelaw02.FactorFewest', WHERE WHAT IT READS IS OF BULK AT MOST 1048576: true; the input reads as it did. -/
def factorFewestUptoRow : OpenClaim := { program := "ytgncpbkedhchfaa", sum := "e8d1ca4760e1deb57b99793c903ea1903cbf2a950b23503eeccdff12b6440eb0", func := "helioscope/helioscopelaw02.FactorFewest", spec := "factorFewest", unfollowed := true, recurses := true, plainKeys := false, apart := false, narrowed := true }
def FactorFewestUptoSaid : Prop := factorFewestUptoRow.holds Try.pinned (OpenSpec.upto factorFewestSpec)

/-- 'helioscopelaw02.FactorMore', WHERE WHAT IT READS IS OF BULK AT MOST 1048576: true; the input reads as it did. -/
def factorMoreUptoRow : OpenClaim := { program := "ytgncpbkedhchfaa", sum := "e8d1ca4760e1deb57b99793c903ea1903cbf2a950b23503eeccdff12b6440eb0", func := "helioscope/helioscopelaw02.FactorMore", spec := "factorMore", unfollowed := true, recurses := true, plainKeys := false, apart := false, narrowed := true }
def FactorMoreUptoSaid : Prop := factorMoreUptoRow.holds Try.pinned (OpenSpec.upto factorMoreSpec)

/-- 'helioscopelaw02.FactorWould', WHERE WHAT IT READS IS OF BULK AT MOST 1048576: true; the input reads as it did. -/
def factorWouldUptoRow : OpenClaim := { program := "ytgncpbkedhchfaa", sum := "e8d1ca4760e1deb57b99793c903ea1903cbf2a950b23503eeccdff12b6440eb0", func := "helioscope/helioscopelaw02.FactorWould", spec := "factorWould", unfollowed := true, recurses := true, plainKeys := false, apart := false, narrowed := true }
def FactorWouldUptoSaid : Prop := factorWouldUptoRow.holds Try.pinned (OpenSpec.upto factorWouldSpec)

/-- 'helioscopelaw02.FactorNext', WHERE WHAT IT READS IS OF BULK AT MOST 1048576: true; the input reads as it did. -/
def factorNextUptoRow : OpenClaim := { program := "ytgncpbkedhchfaa", sum := "e8d1ca4760e1deb57b99793c903ea1903cbf2a950b23503eeccdff12b6440eb0", func := "helioscope/helioscopelaw02.FactorNext", spec := "factorNext", unfollowed := true, recurses := true, plainKeys := false, apart := false, narrowed := true }
def FactorNextUptoSaid : Prop := factorNextUptoRow.holds Try.pinned (OpenSpec.upto factorNextSpec)

/-- 'helioscopelaw02.FactorAlone', WHERE WHAT IT READS IS OF BULK AT MOST 1048576: true; the input reads as it did. -/
def factorAloneUptoRow : OpenClaim := { program := "ytgncpbkedhchfaa", sum := "e8d1ca4760e1deb57b99793c903ea1903cbf2a950b23503eeccdff12b6440eb0", func := "helioscope/helioscopelaw02.FactorAlone", spec := "factorAlone", unfollowed := true, recurses := true, plainKeys := false, apart := false, narrowed := true }
def FactorAloneUptoSaid : Prop := factorAloneUptoRow.holds Try.pinned (OpenSpec.upto factorAloneSpec)

/-- 'helioscopelaw02.FactorWider', WHERE WHAT IT READS IS OF BULK AT MOST 1048576: true; the input reads as it did. -/
def factorWiderUptoRow : OpenClaim := { program := "ytgncpbkedhchfaa", sum := "e8d1ca4760e1deb57b99793c903ea1903cbf2a950b23503eeccdff12b6440eb0", func := "helioscope/helioscopelaw02.FactorWider", spec := "factorWider", unfollowed := true, recurses := true, plainKeys := false, apart := false, narrowed := true }
def FactorWiderUptoSaid : Prop := factorWiderUptoRow.holds Try.pinned (OpenSpec.upto factorWiderSpec)

end Rows
end Go.Proofs.Ytgncpbkedhchfaa
