/-
  No cell of these rows narrows 'for every input' (looked for: loops, veiled, ifaces, maps, wideKeys, modest, calm, conditions, laid).
  DERIVED. THE GIVEN ROWS OF THIS SEAT. 13 by the template 'for every input the law returns true; each argument reads behind the call as it read before'; 0 by the template 'total and deterministic' (their statements: YtihahmggfjjkjaaTotals.lean).
  GIVEN WITH THE SEED: the statements are not yours to turn. If you find one false, say at which input.
  Laid BY PROGRAM, IN A SANDBOX (cutbox-rows.mjs): the forced cells as the released guide's own fill.sh prints them over the translation 1d56f86f5edc49e9… (all of the seat's roots in one cut). By AI agents, Wed Nov 11 2026. No macro, syntax, notation, axiom, sorry.
-/
import Derived.Test.YtihahmggfjjkjaaChecked
import GoSem.Claim
import GoSem.ClaimJoined
import GoSem.ClaimMapViews
import Derived.JoinedTies
import Derived.KernelRfl
namespace Go.Proofs.Ytihahmggfjjkjaa
/- THE CELL 'sum', in the pinned program and in every row, IS THE sha256 OF THE DUMP (.gsa) THAT YtihahmggfjjkjaaProg.lean LOADS. Nothing in Lean hashes anything: it is a label: what it is worth is what the hold of that sum in a sandbox is worth. -/
noncomputable def Try.pinned : Pinned := { name := "ytihahmggfjjkjaa", sum := "1d56f86f5edc49e968dfa4683ba88a6937ae09d6110f329abd0bc59cfc5e2b74", checked := Try.checked }
namespace Rows
def none {H : Type} : Left H := { results := [], args := [] }

/-- 'helioscopelaw09.GapNumbers': WHATEVER THE INPUT: true; the input reads as it did. -/
def gapNumbersSpec : ChangeSpec := { name := "gapNumbers", fn := fun _ => fun
  | [d1, d2] => { results := [.lit (.bool true)], args := [d1, d2] }
  | _ => none }
def gapNumbersRow : OpenClaim := { program := "ytihahmggfjjkjaa", sum := "1d56f86f5edc49e968dfa4683ba88a6937ae09d6110f329abd0bc59cfc5e2b74", func := "helioscope/helioscopelaw09.GapNumbers", spec := "gapNumbers", unfollowed := true, recurses := true, apart := false }
def GapNumbersSaid : Prop := gapNumbersRow.holds Try.pinned (OpenSpec.ofChange gapNumbersSpec)

/-- ITS FALSE NEIGHBOUR: 'it returns false'. Refute it at one input. -/
def gapNumbersWrong : ChangeSpec := { name := "gapNumbers", fn := fun _ => fun
  | [d1, d2] => { results := [.lit (.bool false)], args := [d1, d2] }
  | _ => none }
def GapNumbersWrongFalsely : Prop := gapNumbersRow.holds Try.pinned (OpenSpec.ofChange gapNumbersWrong)

/-- 'helioscopelaw09.GapLasted': WHATEVER THE INPUT: true; the input reads as it did. -/
def gapLastedSpec : ChangeSpec := { name := "gapLasted", fn := fun _ => fun
  | [d1, d2] => { results := [.lit (.bool true)], args := [d1, d2] }
  | _ => none }
def gapLastedRow : OpenClaim := { program := "ytihahmggfjjkjaa", sum := "1d56f86f5edc49e968dfa4683ba88a6937ae09d6110f329abd0bc59cfc5e2b74", func := "helioscope/helioscopelaw09.GapLasted", spec := "gapLasted", unfollowed := true, recurses := true, apart := false }
def GapLastedSaid : Prop := gapLastedRow.holds Try.pinned (OpenSpec.ofChange gapLastedSpec)

/-- ITS FALSE NEIGHBOUR: 'it returns false'. Refute it at one input. -/
def gapLastedWrong : ChangeSpec := { name := "gapLasted", fn := fun _ => fun
  | [d1, d2] => { results := [.lit (.bool false)], args := [d1, d2] }
  | _ => none }
def GapLastedWrongFalsely : Prop := gapLastedRow.holds Try.pinned (OpenSpec.ofChange gapLastedWrong)

/-- 'helioscopelaw09.GapOpens': WHATEVER THE INPUT: true; the input reads as it did. -/
def gapOpensSpec : ChangeSpec := { name := "gapOpens", fn := fun _ => fun
  | [d] => { results := [.lit (.bool true)], args := [d] }
  | _ => none }
def gapOpensRow : OpenClaim := { program := "ytihahmggfjjkjaa", sum := "1d56f86f5edc49e968dfa4683ba88a6937ae09d6110f329abd0bc59cfc5e2b74", func := "helioscope/helioscopelaw09.GapOpens", spec := "gapOpens", unfollowed := true, recurses := true, apart := false }
def GapOpensSaid : Prop := gapOpensRow.holds Try.pinned (OpenSpec.ofChange gapOpensSpec)

/-- ITS FALSE NEIGHBOUR: 'it returns false'. Refute it at one input. -/
def gapOpensWrong : ChangeSpec := { name := "gapOpens", fn := fun _ => fun
  | [d] => { results := [.lit (.bool false)], args := [d] }
  | _ => none }
def GapOpensWrongFalsely : Prop := gapOpensRow.holds Try.pinned (OpenSpec.ofChange gapOpensWrong)

/-- 'helioscopelaw09.GapKnown': WHATEVER THE INPUT: true; the input reads as it did. -/
def gapKnownSpec : ChangeSpec := { name := "gapKnown", fn := fun _ => fun
  | [] => { results := [.lit (.bool true)], args := [] }
  | _ => none }
def gapKnownRow : OpenClaim := { program := "ytihahmggfjjkjaa", sum := "1d56f86f5edc49e968dfa4683ba88a6937ae09d6110f329abd0bc59cfc5e2b74", func := "helioscope/helioscopelaw09.GapKnown", spec := "gapKnown", unfollowed := true, recurses := true, apart := false }
def GapKnownSaid : Prop := gapKnownRow.holds Try.pinned (OpenSpec.ofChange gapKnownSpec)

/-- ITS FALSE NEIGHBOUR: 'it returns false'. Refute it at one input. -/
def gapKnownWrong : ChangeSpec := { name := "gapKnown", fn := fun _ => fun
  | [] => { results := [.lit (.bool false)], args := [] }
  | _ => none }
def GapKnownWrongFalsely : Prop := gapKnownRow.holds Try.pinned (OpenSpec.ofChange gapKnownWrong)

/-- 'helioscopelaw09.GapTrue': WHATEVER THE INPUT: true; the input reads as it did. -/
def gapTrueSpec : ChangeSpec := { name := "gapTrue", fn := fun _ => fun
  | [d1, d2] => { results := [.lit (.bool true)], args := [d1, d2] }
  | _ => none }
def gapTrueRow : OpenClaim := { program := "ytihahmggfjjkjaa", sum := "1d56f86f5edc49e968dfa4683ba88a6937ae09d6110f329abd0bc59cfc5e2b74", func := "helioscope/helioscopelaw09.GapTrue", spec := "gapTrue", unfollowed := true, recurses := true, apart := false }
def GapTrueSaid : Prop := gapTrueRow.holds Try.pinned (OpenSpec.ofChange gapTrueSpec)

/-- ITS FALSE NEIGHBOUR: 'it returns false'. Refute it at one input. -/
def gapTrueWrong : ChangeSpec := { name := "gapTrue", fn := fun _ => fun
  | [d1, d2] => { results := [.lit (.bool false)], args := [d1, d2] }
  | _ => none }
def GapTrueWrongFalsely : Prop := gapTrueRow.holds Try.pinned (OpenSpec.ofChange gapTrueWrong)

/-- 'helioscopelaw09.GapHope': WHATEVER THE INPUT: true; the input reads as it did. -/
def gapHopeSpec : ChangeSpec := { name := "gapHope", fn := fun _ => fun
  | [d1, d2] => { results := [.lit (.bool true)], args := [d1, d2] }
  | _ => none }
def gapHopeRow : OpenClaim := { program := "ytihahmggfjjkjaa", sum := "1d56f86f5edc49e968dfa4683ba88a6937ae09d6110f329abd0bc59cfc5e2b74", func := "helioscope/helioscopelaw09.GapHope", spec := "gapHope", unfollowed := true, recurses := true, apart := false }
def GapHopeSaid : Prop := gapHopeRow.holds Try.pinned (OpenSpec.ofChange gapHopeSpec)

/-- ITS FALSE NEIGHBOUR: 'it returns false'. Refute it at one input. -/
def gapHopeWrong : ChangeSpec := { name := "gapHope", fn := fun _ => fun
  | [d1, d2] => { results := [.lit (.bool false)], args := [d1, d2] }
  | _ => none }
def GapHopeWrongFalsely : Prop := gapHopeRow.holds Try.pinned (OpenSpec.ofChange gapHopeWrong)

/-- 'helioscopelaw09.GapFewest': WHATEVER THE INPUT: true; the input reads as it did. -/
def gapFewestSpec : ChangeSpec := { name := "gapFewest", fn := fun _ => fun
  | [d1, d2] => { results := [.lit (.bool true)], args := [d1, d2] }
  | _ => none }
def gapFewestRow : OpenClaim := { program := "ytihahmggfjjkjaa", sum := "1d56f86f5edc49e968dfa4683ba88a6937ae09d6110f329abd0bc59cfc5e2b74", func := "helioscope/helioscopelaw09.GapFewest", spec := "gapFewest", unfollowed := true, recurses := true, apart := false }
def GapFewestSaid : Prop := gapFewestRow.holds Try.pinned (OpenSpec.ofChange gapFewestSpec)

/-- ITS FALSE NEIGHBOUR: 'it returns false'. Refute it at one input. -/
def gapFewestWrong : ChangeSpec := { name := "gapFewest", fn := fun _ => fun
  | [d1, d2] => { results := [.lit (.bool false)], args := [d1, d2] }
  | _ => none }
def GapFewestWrongFalsely : Prop := gapFewestRow.holds Try.pinned (OpenSpec.ofChange gapFewestWrong)

/-- 'helioscopelaw09.GapMore': WHATEVER THE INPUT: true; the input reads as it did. -/
def gapMoreSpec : ChangeSpec := { name := "gapMore", fn := fun _ => fun
  | [d1, d2] => { results := [.lit (.bool true)], args := [d1, d2] }
  | _ => none }
def gapMoreRow : OpenClaim := { program := "ytihahmggfjjkjaa", sum := "1d56f86f5edc49e968dfa4683ba88a6937ae09d6110f329abd0bc59cfc5e2b74", func := "helioscope/helioscopelaw09.GapMore", spec := "gapMore", unfollowed := true, recurses := true, apart := false }
def GapMoreSaid : Prop := gapMoreRow.holds Try.pinned (OpenSpec.ofChange gapMoreSpec)

/-- ITS FALSE NEIGHBOUR: 'it returns false'. Refute it at one input. -/
def gapMoreWrong : ChangeSpec := { name := "gapMore", fn := fun _ => fun
  | [d1, d2] => { results := [.lit (.bool false)], args := [d1, d2] }
  | _ => none }
def GapMoreWrongFalsely : Prop := gapMoreRow.holds Try.pinned (OpenSpec.ofChange gapMoreWrong)

/-- 'helioscopelaw09.GapSeen': WHATEVER THE INPUT: true; the input reads as it did. -/
def gapSeenSpec : ChangeSpec := { name := "gapSeen", fn := fun _ => fun
  | [d1, d2] => { results := [.lit (.bool true)], args := [d1, d2] }
  | _ => none }
def gapSeenRow : OpenClaim := { program := "ytihahmggfjjkjaa", sum := "1d56f86f5edc49e968dfa4683ba88a6937ae09d6110f329abd0bc59cfc5e2b74", func := "helioscope/helioscopelaw09.GapSeen", spec := "gapSeen", unfollowed := true, recurses := true, apart := false }
def GapSeenSaid : Prop := gapSeenRow.holds Try.pinned (OpenSpec.ofChange gapSeenSpec)

/-- ITS FALSE NEIGHBOUR: 'it returns false'. Refute it at one input. -/
def gapSeenWrong : ChangeSpec := { name := "gapSeen", fn := fun _ => fun
  | [d1, d2] => { results := [.lit (.bool false)], args := [d1, d2] }
  | _ => none }
def GapSeenWrongFalsely : Prop := gapSeenRow.holds Try.pinned (OpenSpec.ofChange gapSeenWrong)

/-- 'helioscopelaw09.GapFirst': WHATEVER THE INPUT: true; the input reads as it did. -/
def gapFirstSpec : ChangeSpec := { name := "gapFirst", fn := fun _ => fun
  | [d1, d2] => { results := [.lit (.bool true)], args := [d1, d2] }
  | _ => none }
def gapFirstRow : OpenClaim := { program := "ytihahmggfjjkjaa", sum := "1d56f86f5edc49e968dfa4683ba88a6937ae09d6110f329abd0bc59cfc5e2b74", func := "helioscope/helioscopelaw09.GapFirst", spec := "gapFirst", unfollowed := true, recurses := true, apart := false }
def GapFirstSaid : Prop := gapFirstRow.holds Try.pinned (OpenSpec.ofChange gapFirstSpec)

/-- ITS FALSE NEIGHBOUR: 'it returns false'. Refute it at one input. -/
def gapFirstWrong : ChangeSpec := { name := "gapFirst", fn := fun _ => fun
  | [d1, d2] => { results := [.lit (.bool false)], args := [d1, d2] }
  | _ => none }
def GapFirstWrongFalsely : Prop := gapFirstRow.holds Try.pinned (OpenSpec.ofChange gapFirstWrong)

/-- 'helioscopelaw09.GapNone': WHATEVER THE INPUT: true; the input reads as it did. -/
def gapNoneSpec : ChangeSpec := { name := "gapNone", fn := fun _ => fun
  | [d] => { results := [.lit (.bool true)], args := [d] }
  | _ => none }
def gapNoneRow : OpenClaim := { program := "ytihahmggfjjkjaa", sum := "1d56f86f5edc49e968dfa4683ba88a6937ae09d6110f329abd0bc59cfc5e2b74", func := "helioscope/helioscopelaw09.GapNone", spec := "gapNone", unfollowed := true, recurses := true, apart := false }
def GapNoneSaid : Prop := gapNoneRow.holds Try.pinned (OpenSpec.ofChange gapNoneSpec)

/-- ITS FALSE NEIGHBOUR: 'it returns false'. Refute it at one input. -/
def gapNoneWrong : ChangeSpec := { name := "gapNone", fn := fun _ => fun
  | [d] => { results := [.lit (.bool false)], args := [d] }
  | _ => none }
def GapNoneWrongFalsely : Prop := gapNoneRow.holds Try.pinned (OpenSpec.ofChange gapNoneWrong)

/-- 'helioscopelaw09.GapBack': WHATEVER THE INPUT: true; the input reads as it did. -/
def gapBackSpec : ChangeSpec := { name := "gapBack", fn := fun _ => fun
  | [d] => { results := [.lit (.bool true)], args := [d] }
  | _ => none }
def gapBackRow : OpenClaim := { program := "ytihahmggfjjkjaa", sum := "1d56f86f5edc49e968dfa4683ba88a6937ae09d6110f329abd0bc59cfc5e2b74", func := "helioscope/helioscopelaw09.GapBack", spec := "gapBack", unfollowed := true, recurses := true, apart := false }
def GapBackSaid : Prop := gapBackRow.holds Try.pinned (OpenSpec.ofChange gapBackSpec)

/-- ITS FALSE NEIGHBOUR: 'it returns false'. Refute it at one input. -/
def gapBackWrong : ChangeSpec := { name := "gapBack", fn := fun _ => fun
  | [d] => { results := [.lit (.bool false)], args := [d] }
  | _ => none }
def GapBackWrongFalsely : Prop := gapBackRow.holds Try.pinned (OpenSpec.ofChange gapBackWrong)

/-- 'helioscopelaw09.GapSum': WHATEVER THE INPUT: true; the input reads as it did. -/
def gapSumSpec : ChangeSpec := { name := "gapSum", fn := fun _ => fun
  | [d] => { results := [.lit (.bool true)], args := [d] }
  | _ => none }
def gapSumRow : OpenClaim := { program := "ytihahmggfjjkjaa", sum := "1d56f86f5edc49e968dfa4683ba88a6937ae09d6110f329abd0bc59cfc5e2b74", func := "helioscope/helioscopelaw09.GapSum", spec := "gapSum", unfollowed := true, recurses := true, apart := false }
def GapSumSaid : Prop := gapSumRow.holds Try.pinned (OpenSpec.ofChange gapSumSpec)

/-- ITS FALSE NEIGHBOUR: 'it returns false'. Refute it at one input. -/
def gapSumWrong : ChangeSpec := { name := "gapSum", fn := fun _ => fun
  | [d] => { results := [.lit (.bool false)], args := [d] }
  | _ => none }
def GapSumWrongFalsely : Prop := gapSumRow.holds Try.pinned (OpenSpec.ofChange gapSumWrong)

/- THE SECOND FORM. 'bulk': how many values and letters a reading holds, each counted each time it is reached (what is shared counts as often as it is met; a slice's spare places count too). A statement '..UptoSaid' is the law's where the arguments, and the package variables that the reading takes, are together of bulk at most 1048576: NARROWER than '..Said'. Prove '..Said' where nothing that the law and all that it calls make is longer than what came in: it says more and counts as full. Else prove '..UptoSaid'. A law counts once. -/
mutual
def uptoBulk {H : Type} : DataW H → Nat
  | .lit (.string bytes) => bytes.length + 1
  | .lit _ => 1
  | .nil => 1
  | .ptr d => uptoBulk d + 1
  | .slice elems spare => uptoBulkAll elems + uptoBulkAll spare + 1
  | .agg parts => uptoBulkAll parts + 1
  | .iface _ d => uptoBulk d + 1
  | .map entries => uptoBulkEntries entries + 1
  | .held _ => 1
def uptoBulkAll {H : Type} : List (DataW H) → Nat
  | [] => 0
  | d :: r => uptoBulk d + uptoBulkAll r
def uptoBulkEntries {H : Type} : List (Lit × DataW H) → Nat
  | [] => 0
  | x :: r => uptoBulkEntry x + uptoBulkEntries r
def uptoBulkEntry {H : Type} : Lit × DataW H → Nat
  | (.string bytes, d) => bytes.length + uptoBulk d + 1
  | (_, d) => uptoBulk d + 1
 end
def uptoSmall : (H : Type) → List (DataW H) → Bool := fun _ ds => decide (uptoBulkAll ds ≤ 1048576)
def OpenSpec.upto (s : _root_.Go.ChangeSpec) : _root_.Go.OpenSpec := { _root_.Go.OpenSpec.ofChange s with cond := some uptoSmall }

/-- 'helioscopelaw09.GapNumbers', WHERE WHAT IT READS IS OF BULK AT MOST 1048576: true; the input reads as it did. -/
def gapNumbersUptoRow : OpenClaim := { program := "ytihahmggfjjkjaa", sum := "1d56f86f5edc49e968dfa4683ba88a6937ae09d6110f329abd0bc59cfc5e2b74", func := "helioscope/helioscopelaw09.GapNumbers", spec := "gapNumbers", unfollowed := true, recurses := true, apart := false, narrowed := true }
def GapNumbersUptoSaid : Prop := gapNumbersUptoRow.holds Try.pinned (OpenSpec.upto gapNumbersSpec)

/-- 'helioscopelaw09.GapLasted', WHERE WHAT IT READS IS OF BULK AT MOST 1048576: true; the input reads as it did. -/
def gapLastedUptoRow : OpenClaim := { program := "ytihahmggfjjkjaa", sum := "1d56f86f5edc49e968dfa4683ba88a6937ae09d6110f329abd0bc59cfc5e2b74", func := "helioscope/helioscopelaw09.GapLasted", spec := "gapLasted", unfollowed := true, recurses := true, apart := false, narrowed := true }
def GapLastedUptoSaid : Prop := gapLastedUptoRow.holds Try.pinned (OpenSpec.upto gapLastedSpec)

/-- 'helioscopelaw09.GapOpens', WHERE WHAT IT READS IS OF BULK AT MOST 1048576: true; the input reads as it did. -/
def gapOpensUptoRow : OpenClaim := { program := "ytihahmggfjjkjaa", sum := "1d56f86f5edc49e968dfa4683ba88a6937ae09d6110f329abd0bc59cfc5e2b74", func := "helioscope/helioscopelaw09.GapOpens", spec := "gapOpens", unfollowed := true, recurses := true, apart := false, narrowed := true }
def GapOpensUptoSaid : Prop := gapOpensUptoRow.holds Try.pinned (OpenSpec.upto gapOpensSpec)

/-- 'helioscopelaw09.GapKnown', WHERE WHAT IT READS IS OF BULK AT MOST 1048576: true; the input reads as it did. -/
def gapKnownUptoRow : OpenClaim := { program := "ytihahmggfjjkjaa", sum := "1d56f86f5edc49e968dfa4683ba88a6937ae09d6110f329abd0bc59cfc5e2b74", func := "helioscope/helioscopelaw09.GapKnown", spec := "gapKnown", unfollowed := true, recurses := true, apart := false, narrowed := true }
def GapKnownUptoSaid : Prop := gapKnownUptoRow.holds Try.pinned (OpenSpec.upto gapKnownSpec)

/-- 'helioscopelaw09.GapTrue', WHERE WHAT IT READS IS OF BULK AT MOST 1048576: true; the input reads as it did. -/
def gapTrueUptoRow : OpenClaim := { program := "ytihahmggfjjkjaa", sum := "1d56f86f5edc49e968dfa4683ba88a6937ae09d6110f329abd0bc59cfc5e2b74", func := "helioscope/helioscopelaw09.GapTrue", spec := "gapTrue", unfollowed := true, recurses := true, apart := false, narrowed := true }
def GapTrueUptoSaid : Prop := gapTrueUptoRow.holds Try.pinned (OpenSpec.upto gapTrueSpec)

/-- 'helioscopelaw09.GapHope', WHERE WHAT IT READS IS OF BULK AT MOST 1048576: true; the input reads as it did. -/
def gapHopeUptoRow : OpenClaim := { program := "ytihahmggfjjkjaa", sum := "1d56f86f5edc49e968dfa4683ba88a6937ae09d6110f329abd0bc59cfc5e2b74", func := "helioscope/helioscopelaw09.GapHope", spec := "gapHope", unfollowed := true, recurses := true, apart := false, narrowed := true }
def GapHopeUptoSaid : Prop := gapHopeUptoRow.holds Try.pinned (OpenSpec.upto gapHopeSpec)

/-- 'helioscopelaw09.GapFewest', WHERE WHAT IT READS IS OF BULK AT MOST 1048576: true; the input reads as it did. -/
def gapFewestUptoRow : OpenClaim := { program := "ytihahmggfjjkjaa", sum := "1d56f86f5edc49e968dfa4683ba88a6937ae09d6110f329abd0bc59cfc5e2b74", func := "helioscope/helioscopelaw09.GapFewest", spec := "gapFewest", unfollowed := true, recurses := true, apart := false, narrowed := true }
def GapFewestUptoSaid : Prop := gapFewestUptoRow.holds Try.pinned (OpenSpec.upto gapFewestSpec)

/-- 'helioscopelaw09.GapMore', WHERE WHAT IT READS IS OF BULK AT MOST 1048576: true; the input reads as it did. -/
def gapMoreUptoRow : OpenClaim := { program := "ytihahmggfjjkjaa", sum := "1d56f86f5edc49e968dfa4683ba88a6937ae09d6110f329abd0bc59cfc5e2b74", func := "helioscope/helioscopelaw09.GapMore", spec := "gapMore", unfollowed := true, recurses := true, apart := false, narrowed := true }
def GapMoreUptoSaid : Prop := gapMoreUptoRow.holds Try.pinned (OpenSpec.upto gapMoreSpec)

/-- 'helioscopelaw09.GapSeen', WHERE WHAT IT READS IS OF BULK AT MOST 1048576: true; the input reads as it did. -/
def gapSeenUptoRow : OpenClaim := { program := "ytihahmggfjjkjaa", sum := "1d56f86f5edc49e968dfa4683ba88a6937ae09d6110f329abd0bc59cfc5e2b74", func := "helioscope/helioscopelaw09.GapSeen", spec := "gapSeen", unfollowed := true, recurses := true, apart := false, narrowed := true }
def GapSeenUptoSaid : Prop := gapSeenUptoRow.holds Try.pinned (OpenSpec.upto gapSeenSpec)

/-- 'helioscopelaw09.GapFirst', WHERE WHAT IT READS IS OF BULK AT MOST 1048576: true; the input reads as it did. -/
def gapFirstUptoRow : OpenClaim := { program := "ytihahmggfjjkjaa", sum := "1d56f86f5edc49e968dfa4683ba88a6937ae09d6110f329abd0bc59cfc5e2b74", func := "helioscope/helioscopelaw09.GapFirst", spec := "gapFirst", unfollowed := true, recurses := true, apart := false, narrowed := true }
def GapFirstUptoSaid : Prop := gapFirstUptoRow.holds Try.pinned (OpenSpec.upto gapFirstSpec)

/-- 'helioscopelaw09.GapNone', WHERE WHAT IT READS IS OF BULK AT MOST 1048576: true; the input reads as it did. -/
def gapNoneUptoRow : OpenClaim := { program := "ytihahmggfjjkjaa", sum := "1d56f86f5edc49e968dfa4683ba88a6937ae09d6110f329abd0bc59cfc5e2b74", func := "helioscope/helioscopelaw09.GapNone", spec := "gapNone", unfollowed := true, recurses := true, apart := false, narrowed := true }
def GapNoneUptoSaid : Prop := gapNoneUptoRow.holds Try.pinned (OpenSpec.upto gapNoneSpec)

/-- 'helioscopelaw09.GapBack', WHERE WHAT IT READS IS OF BULK AT MOST 1048576: true; the input reads as it did. -/
def gapBackUptoRow : OpenClaim := { program := "ytihahmggfjjkjaa", sum := "1d56f86f5edc49e968dfa4683ba88a6937ae09d6110f329abd0bc59cfc5e2b74", func := "helioscope/helioscopelaw09.GapBack", spec := "gapBack", unfollowed := true, recurses := true, apart := false, narrowed := true }
def GapBackUptoSaid : Prop := gapBackUptoRow.holds Try.pinned (OpenSpec.upto gapBackSpec)

/-- 'helioscopelaw09.GapSum', WHERE WHAT IT READS IS OF BULK AT MOST 1048576: true; the input reads as it did. -/
def gapSumUptoRow : OpenClaim := { program := "ytihahmggfjjkjaa", sum := "1d56f86f5edc49e968dfa4683ba88a6937ae09d6110f329abd0bc59cfc5e2b74", func := "helioscope/helioscopelaw09.GapSum", spec := "gapSum", unfollowed := true, recurses := true, apart := false, narrowed := true }
def GapSumUptoSaid : Prop := gapSumUptoRow.holds Try.pinned (OpenSpec.upto gapSumSpec)

end Rows
end Go.Proofs.Ytihahmggfjjkjaa
