/-
  No cell of these rows narrows 'for every input' (looked for: loops, veiled, ifaces, maps, wideKeys, modest, calm, conditions, laid).
  DERIVED. THE GIVEN ROWS OF THIS SEAT. 11 by the template 'for every input the law returns true; each argument reads behind the call as it read before'; 0 by the template 'total and deterministic' (their statements: YtflabakeiecfiaaTotals.lean).
  GIVEN WITH THE SEED: the statements are not yours to turn. If you find one false, say at which input.
  Laid BY PROGRAM, IN A SANDBOX (cutbox-rows.mjs): the forced cells as the released guide's own fill.sh prints them over the translation 284871e832179ee0… (all of the seat's roots in one cut). By AI agents, Wed Nov 11 2026. No macro, syntax, notation, axiom, sorry.
-/
import Derived.Test.YtflabakeiecfiaaChecked
import GoSem.Claim
import GoSem.ClaimJoined
import GoSem.ClaimMapViews
import Derived.JoinedTies
import Derived.KernelRfl
namespace Go.Proofs.Ytflabakeiecfiaa
/- THE CELL 'sum', in the pinned program and in every row, IS THE sha256 OF THE DUMP (.gsa) THAT YtflabakeiecfiaaProg.lean LOADS. Nothing in Lean hashes anything: it is a label: what it is worth is what the hold of that sum in a sandbox is worth. -/
noncomputable def Try.pinned : Pinned := { name := "ytflabakeiecfiaa", sum := "284871e832179ee041f9d632f903db168d527aae718a168f3cf60324390164da", checked := Try.checked }
namespace Rows
def none {H : Type} : Left H := { results := [], args := [] }

/-- 'laws.FnExactKnownValid': WHATEVER THE INPUT: true; the input reads as it did. -/
def fnExactKnownValidSpec : ChangeSpec := { name := "fnExactKnownValid", fn := fun _ => fun
  | [d] => { results := [.lit (.bool true)], args := [d] }
  | _ => none }
def fnExactKnownValidRow : OpenClaim := { program := "ytflabakeiecfiaa", sum := "284871e832179ee041f9d632f903db168d527aae718a168f3cf60324390164da", func := "loop.example/soughtstreams/laws.FnExactKnownValid", spec := "fnExactKnownValid", apart := false }
def FnExactKnownValidSaid : Prop := fnExactKnownValidRow.holds Try.pinned (OpenSpec.ofChange fnExactKnownValidSpec)

/-- ITS FALSE NEIGHBOUR: 'it returns false'. Refute it at one input. -/
def fnExactKnownValidWrong : ChangeSpec := { name := "fnExactKnownValid", fn := fun _ => fun
  | [d] => { results := [.lit (.bool false)], args := [d] }
  | _ => none }
def FnExactKnownValidWrongFalsely : Prop := fnExactKnownValidRow.holds Try.pinned (OpenSpec.ofChange fnExactKnownValidWrong)

/-- 'laws.FnExactStart': WHATEVER THE INPUT: true; the input reads as it did. -/
def fnExactStartSpec : ChangeSpec := { name := "fnExactStart", fn := fun _ => fun
  | [d] => { results := [.lit (.bool true)], args := [d] }
  | _ => none }
def fnExactStartRow : OpenClaim := { program := "ytflabakeiecfiaa", sum := "284871e832179ee041f9d632f903db168d527aae718a168f3cf60324390164da", func := "loop.example/soughtstreams/laws.FnExactStart", spec := "fnExactStart", apart := false }
def FnExactStartSaid : Prop := fnExactStartRow.holds Try.pinned (OpenSpec.ofChange fnExactStartSpec)

/-- ITS FALSE NEIGHBOUR: 'it returns false'. Refute it at one input. -/
def fnExactStartWrong : ChangeSpec := { name := "fnExactStart", fn := fun _ => fun
  | [d] => { results := [.lit (.bool false)], args := [d] }
  | _ => none }
def FnExactStartWrongFalsely : Prop := fnExactStartRow.holds Try.pinned (OpenSpec.ofChange fnExactStartWrong)

/-- 'laws.FnExactGrows': WHATEVER THE INPUT: true; the input reads as it did. -/
def fnExactGrowsSpec : ChangeSpec := { name := "fnExactGrows", fn := fun _ => fun
  | [d] => { results := [.lit (.bool true)], args := [d] }
  | _ => none }
def fnExactGrowsRow : OpenClaim := { program := "ytflabakeiecfiaa", sum := "284871e832179ee041f9d632f903db168d527aae718a168f3cf60324390164da", func := "loop.example/soughtstreams/laws.FnExactGrows", spec := "fnExactGrows", apart := false }
def FnExactGrowsSaid : Prop := fnExactGrowsRow.holds Try.pinned (OpenSpec.ofChange fnExactGrowsSpec)

/-- ITS FALSE NEIGHBOUR: 'it returns false'. Refute it at one input. -/
def fnExactGrowsWrong : ChangeSpec := { name := "fnExactGrows", fn := fun _ => fun
  | [d] => { results := [.lit (.bool false)], args := [d] }
  | _ => none }
def FnExactGrowsWrongFalsely : Prop := fnExactGrowsRow.holds Try.pinned (OpenSpec.ofChange fnExactGrowsWrong)

/-- 'laws.FnExactNextWord': WHATEVER THE INPUT: true; the input reads as it did. -/
def fnExactNextWordSpec : ChangeSpec := { name := "fnExactNextWord", fn := fun _ => fun
  | [d] => { results := [.lit (.bool true)], args := [d] }
  | _ => none }
def fnExactNextWordRow : OpenClaim := { program := "ytflabakeiecfiaa", sum := "284871e832179ee041f9d632f903db168d527aae718a168f3cf60324390164da", func := "loop.example/soughtstreams/laws.FnExactNextWord", spec := "fnExactNextWord", apart := false }
def FnExactNextWordSaid : Prop := fnExactNextWordRow.holds Try.pinned (OpenSpec.ofChange fnExactNextWordSpec)

/-- ITS FALSE NEIGHBOUR: 'it returns false'. Refute it at one input. -/
def fnExactNextWordWrong : ChangeSpec := { name := "fnExactNextWord", fn := fun _ => fun
  | [d] => { results := [.lit (.bool false)], args := [d] }
  | _ => none }
def FnExactNextWordWrongFalsely : Prop := fnExactNextWordRow.holds Try.pinned (OpenSpec.ofChange fnExactNextWordWrong)

/-- 'laws.FnExactGreatest': WHATEVER THE INPUT: true; the input reads as it did. -/
def fnExactGreatestSpec : ChangeSpec := { name := "fnExactGreatest", fn := fun _ => fun
  | [d] => { results := [.lit (.bool true)], args := [d] }
  | _ => none }
def fnExactGreatestRow : OpenClaim := { program := "ytflabakeiecfiaa", sum := "284871e832179ee041f9d632f903db168d527aae718a168f3cf60324390164da", func := "loop.example/soughtstreams/laws.FnExactGreatest", spec := "fnExactGreatest", apart := false }
def FnExactGreatestSaid : Prop := fnExactGreatestRow.holds Try.pinned (OpenSpec.ofChange fnExactGreatestSpec)

/-- ITS FALSE NEIGHBOUR: 'it returns false'. Refute it at one input. -/
def fnExactGreatestWrong : ChangeSpec := { name := "fnExactGreatest", fn := fun _ => fun
  | [d] => { results := [.lit (.bool false)], args := [d] }
  | _ => none }
def FnExactGreatestWrongFalsely : Prop := fnExactGreatestRow.holds Try.pinned (OpenSpec.ofChange fnExactGreatestWrong)

/-- 'laws.FnExactWordOf': WHATEVER THE INPUT: true; the input reads as it did. -/
def fnExactWordOfSpec : ChangeSpec := { name := "fnExactWordOf", fn := fun _ => fun
  | [d1, d2] => { results := [.lit (.bool true)], args := [d1, d2] }
  | _ => none }
def fnExactWordOfRow : OpenClaim := { program := "ytflabakeiecfiaa", sum := "284871e832179ee041f9d632f903db168d527aae718a168f3cf60324390164da", func := "loop.example/soughtstreams/laws.FnExactWordOf", spec := "fnExactWordOf", recurses := true, apart := false }
def FnExactWordOfSaid : Prop := fnExactWordOfRow.holds Try.pinned (OpenSpec.ofChange fnExactWordOfSpec)

/-- ITS FALSE NEIGHBOUR: 'it returns false'. Refute it at one input. -/
def fnExactWordOfWrong : ChangeSpec := { name := "fnExactWordOf", fn := fun _ => fun
  | [d1, d2] => { results := [.lit (.bool false)], args := [d1, d2] }
  | _ => none }
def FnExactWordOfWrongFalsely : Prop := fnExactWordOfRow.holds Try.pinned (OpenSpec.ofChange fnExactWordOfWrong)

/-- 'laws.FnExactWidth': WHATEVER THE INPUT: true; the input reads as it did. -/
def fnExactWidthSpec : ChangeSpec := { name := "fnExactWidth", fn := fun _ => fun
  | [d] => { results := [.lit (.bool true)], args := [d] }
  | _ => none }
def fnExactWidthRow : OpenClaim := { program := "ytflabakeiecfiaa", sum := "284871e832179ee041f9d632f903db168d527aae718a168f3cf60324390164da", func := "loop.example/soughtstreams/laws.FnExactWidth", spec := "fnExactWidth", apart := false }
def FnExactWidthSaid : Prop := fnExactWidthRow.holds Try.pinned (OpenSpec.ofChange fnExactWidthSpec)

/-- ITS FALSE NEIGHBOUR: 'it returns false'. Refute it at one input. -/
def fnExactWidthWrong : ChangeSpec := { name := "fnExactWidth", fn := fun _ => fun
  | [d] => { results := [.lit (.bool false)], args := [d] }
  | _ => none }
def FnExactWidthWrongFalsely : Prop := fnExactWidthRow.holds Try.pinned (OpenSpec.ofChange fnExactWidthWrong)

/-- 'laws.FnExactAfter': WHATEVER THE INPUT: true; the input reads as it did. -/
def fnExactAfterSpec : ChangeSpec := { name := "fnExactAfter", fn := fun _ => fun
  | [d1, d2] => { results := [.lit (.bool true)], args := [d1, d2] }
  | _ => none }
def fnExactAfterRow : OpenClaim := { program := "ytflabakeiecfiaa", sum := "284871e832179ee041f9d632f903db168d527aae718a168f3cf60324390164da", func := "loop.example/soughtstreams/laws.FnExactAfter", spec := "fnExactAfter", recurses := true, apart := false }
def FnExactAfterSaid : Prop := fnExactAfterRow.holds Try.pinned (OpenSpec.ofChange fnExactAfterSpec)

/-- ITS FALSE NEIGHBOUR: 'it returns false'. Refute it at one input. -/
def fnExactAfterWrong : ChangeSpec := { name := "fnExactAfter", fn := fun _ => fun
  | [d1, d2] => { results := [.lit (.bool false)], args := [d1, d2] }
  | _ => none }
def FnExactAfterWrongFalsely : Prop := fnExactAfterRow.holds Try.pinned (OpenSpec.ofChange fnExactAfterWrong)

/-- 'laws.FnExactCodesValid': WHATEVER THE INPUT: true; the input reads as it did. -/
def fnExactCodesValidSpec : ChangeSpec := { name := "fnExactCodesValid", fn := fun _ => fun
  | [d1, d2] => { results := [.lit (.bool true)], args := [d1, d2] }
  | _ => none }
def fnExactCodesValidRow : OpenClaim := { program := "ytflabakeiecfiaa", sum := "284871e832179ee041f9d632f903db168d527aae718a168f3cf60324390164da", func := "loop.example/soughtstreams/laws.FnExactCodesValid", spec := "fnExactCodesValid", recurses := true, apart := false }
def FnExactCodesValidSaid : Prop := fnExactCodesValidRow.holds Try.pinned (OpenSpec.ofChange fnExactCodesValidSpec)

/-- ITS FALSE NEIGHBOUR: 'it returns false'. Refute it at one input. -/
def fnExactCodesValidWrong : ChangeSpec := { name := "fnExactCodesValid", fn := fun _ => fun
  | [d1, d2] => { results := [.lit (.bool false)], args := [d1, d2] }
  | _ => none }
def FnExactCodesValidWrongFalsely : Prop := fnExactCodesValidRow.holds Try.pinned (OpenSpec.ofChange fnExactCodesValidWrong)

/-- 'laws.FnExactCodesData': WHATEVER THE INPUT: true; the input reads as it did. -/
def fnExactCodesDataSpec : ChangeSpec := { name := "fnExactCodesData", fn := fun _ => fun
  | [d1, d2] => { results := [.lit (.bool true)], args := [d1, d2] }
  | _ => none }
def fnExactCodesDataRow : OpenClaim := { program := "ytflabakeiecfiaa", sum := "284871e832179ee041f9d632f903db168d527aae718a168f3cf60324390164da", func := "loop.example/soughtstreams/laws.FnExactCodesData", spec := "fnExactCodesData", recurses := true, apart := false }
def FnExactCodesDataSaid : Prop := fnExactCodesDataRow.holds Try.pinned (OpenSpec.ofChange fnExactCodesDataSpec)

/-- ITS FALSE NEIGHBOUR: 'it returns false'. Refute it at one input. -/
def fnExactCodesDataWrong : ChangeSpec := { name := "fnExactCodesData", fn := fun _ => fun
  | [d1, d2] => { results := [.lit (.bool false)], args := [d1, d2] }
  | _ => none }
def FnExactCodesDataWrongFalsely : Prop := fnExactCodesDataRow.holds Try.pinned (OpenSpec.ofChange fnExactCodesDataWrong)

/-- 'laws.FnExactCodesWidths': WHATEVER THE INPUT: true; the input reads as it did. -/
def fnExactCodesWidthsSpec : ChangeSpec := { name := "fnExactCodesWidths", fn := fun _ => fun
  | [d1, d2] => { results := [.lit (.bool true)], args := [d1, d2] }
  | _ => none }
def fnExactCodesWidthsRow : OpenClaim := { program := "ytflabakeiecfiaa", sum := "284871e832179ee041f9d632f903db168d527aae718a168f3cf60324390164da", func := "loop.example/soughtstreams/laws.FnExactCodesWidths", spec := "fnExactCodesWidths", recurses := true, apart := false }
def FnExactCodesWidthsSaid : Prop := fnExactCodesWidthsRow.holds Try.pinned (OpenSpec.ofChange fnExactCodesWidthsSpec)

/-- ITS FALSE NEIGHBOUR: 'it returns false'. Refute it at one input. -/
def fnExactCodesWidthsWrong : ChangeSpec := { name := "fnExactCodesWidths", fn := fun _ => fun
  | [d1, d2] => { results := [.lit (.bool false)], args := [d1, d2] }
  | _ => none }
def FnExactCodesWidthsWrongFalsely : Prop := fnExactCodesWidthsRow.holds Try.pinned (OpenSpec.ofChange fnExactCodesWidthsWrong)

/- THE SECOND FORM. 'bulk': how many values and letters a reading holds, each counted each time it is reached (what is shared counts as often as it is met; a slice's spare places count too). A statement '..UptoSaid' is the law's where the arguments, and the package variables that the reading takes, are together of bulk at most 1048576: NARROWER than '..Said'. Prove '..Said' where nothing that the law and all that it calls make is longer than what came in: it says more and counts as full. Else prove '..UptoSaid'. A law counts once. -/
mutual
def uptoBulk {H : Type} : DataW H → Nat
  | .lit (.string bytes) => bytes.length + 1
  | .lit _ => 1
  | .nil => 1
  | .ptr d => uptoBulk d + 1
  | .slice elems spare => uptoBulkAll elems + uptoBulkAll spare + 1
  | .agg parts => uptoBulkAll parts + 1
  | .iface _ d => uptoBulk d + 1
  | .map entries => uptoBulkEntries entries + 1
  | .held _ => 1
def uptoBulkAll {H : Type} : List (DataW H) → Nat
  | [] => 0
  | d :: r => uptoBulk d + uptoBulkAll r
def uptoBulkEntries {H : Type} : List (Lit × DataW H) → Nat
  | [] => 0
  | x :: r => uptoBulkEntry x + uptoBulkEntries r
def uptoBulkEntry {H : Type} : Lit × DataW H → Nat
  | (.string bytes, d) => bytes.length + uptoBulk d + 1
  | (_, d) => uptoBulk d + 1
 end
def uptoSmall : (H : Type) → List (DataW H) → Bool := fun _ ds => decide (uptoBulkAll ds ≤ 1048576)
def OpenSpec.upto (s : _root_.Go.ChangeSpec) : _root_.Go.OpenSpec := { _root_.Go.OpenSpec.ofChange s with cond := some uptoSmall }

/-- 'laws.FnExactKnownValid', WHERE WHAT IT READS IS OF BULK AT MOST 1048576: true; the input reads as it did. -/
def fnExactKnownValidUptoRow : OpenClaim := { program := "ytflabakeiecfiaa", sum := "284871e832179ee041f9d632f903db168d527aae718a168f3cf60324390164da", func := "loop.example/soughtstreams/laws.FnExactKnownValid", spec := "fnExactKnownValid", apart := false, narrowed := true }
def FnExactKnownValidUptoSaid : Prop := fnExactKnownValidUptoRow.holds Try.pinned (OpenSpec.upto fnExactKnownValidSpec)

/-- 'laws.FnExactStart', WHERE WHAT IT READS IS OF BULK AT MOST 1048576: true; the input reads as it did. -/
def fnExactStartUptoRow : OpenClaim := { program := "ytflabakeiecfiaa", sum := "284871e832179ee041f9d632f903db168d527aae718a168f3cf60324390164da", func := "loop.example/soughtstreams/laws.FnExactStart", spec := "fnExactStart", apart := false, narrowed := true }
def FnExactStartUptoSaid : Prop := fnExactStartUptoRow.holds Try.pinned (OpenSpec.upto fnExactStartSpec)

/-- 'laws.FnExactGrows', WHERE WHAT IT READS IS OF BULK AT MOST 1048576: true; the input reads as it did. -/
def fnExactGrowsUptoRow : OpenClaim := { program := "ytflabakeiecfiaa", sum := "284871e832179ee041f9d632f903db168d527aae718a168f3cf60324390164da", func := "loop.example/soughtstreams/laws.FnExactGrows", spec := "fnExactGrows", apart := false, narrowed := true }
def FnExactGrowsUptoSaid : Prop := fnExactGrowsUptoRow.holds Try.pinned (OpenSpec.upto fnExactGrowsSpec)

/-- 'laws.FnExactNextWord', WHERE WHAT IT READS IS OF BULK AT MOST 1048576: true; the input reads as it did. -/
def fnExactNextWordUptoRow : OpenClaim := { program := "ytflabakeiecfiaa", sum := "284871e832179ee041f9d632f903db168d527aae718a168f3cf60324390164da", func := "loop.example/soughtstreams/laws.FnExactNextWord", spec := "fnExactNextWord", apart := false, narrowed := true }
def FnExactNextWordUptoSaid : Prop := fnExactNextWordUptoRow.holds Try.pinned (OpenSpec.upto fnExactNextWordSpec)

/-- 'laws.FnExactGreatest', WHERE WHAT IT READS IS OF BULK AT MOST 1048576: true; the input reads as it did. -/
def fnExactGreatestUptoRow : OpenClaim := { program := "ytflabakeiecfiaa", sum := "284871e832179ee041f9d632f903db168d527aae718a168f3cf60324390164da", func := "loop.example/soughtstreams/laws.FnExactGreatest", spec := "fnExactGreatest", apart := false, narrowed := true }
def FnExactGreatestUptoSaid : Prop := fnExactGreatestUptoRow.holds Try.pinned (OpenSpec.upto fnExactGreatestSpec)

/-- 'laws.FnExactWordOf', WHERE WHAT IT READS IS OF BULK AT MOST 1048576: true; the input reads as it did. -/
def fnExactWordOfUptoRow : OpenClaim := { program := "ytflabakeiecfiaa", sum := "284871e832179ee041f9d632f903db168d527aae718a168f3cf60324390164da", func := "loop.example/soughtstreams/laws.FnExactWordOf", spec := "fnExactWordOf", recurses := true, apart := false, narrowed := true }
def FnExactWordOfUptoSaid : Prop := fnExactWordOfUptoRow.holds Try.pinned (OpenSpec.upto fnExactWordOfSpec)

/-- 'laws.FnExactWidth', WHERE WHAT IT READS IS OF BULK AT MOST 1048576: true; the input reads as it did. -/
def fnExactWidthUptoRow : OpenClaim := { program := "ytflabakeiecfiaa", sum := "284871e832179ee041f9d632f903db168d527aae718a168f3cf60324390164da", func := "loop.example/soughtstreams/laws.FnExactWidth", spec := "fnExactWidth", apart := false, narrowed := true }
def FnExactWidthUptoSaid : Prop := fnExactWidthUptoRow.holds Try.pinned (OpenSpec.upto fnExactWidthSpec)

/-- 'laws.FnExactAfter', WHERE WHAT IT READS IS OF BULK AT MOST 1048576: true; the input reads as it did. -/
def fnExactAfterUptoRow : OpenClaim := { program := "ytflabakeiecfiaa", sum := "284871e832179ee041f9d632f903db168d527aae718a168f3cf60324390164da", func := "loop.example/soughtstreams/laws.FnExactAfter", spec := "fnExactAfter", recurses := true, apart := false, narrowed := true }
def FnExactAfterUptoSaid : Prop := fnExactAfterUptoRow.holds Try.pinned (OpenSpec.upto fnExactAfterSpec)

/-- 'laws.FnExactCodesValid', WHERE WHAT IT READS IS OF BULK AT MOST 1048576: true; the input reads as it did. -/
def fnExactCodesValidUptoRow : OpenClaim := { program := "ytflabakeiecfiaa", sum := "284871e832179ee041f9d632f903db168d527aae718a168f3cf60324390164da", func := "loop.example/soughtstreams/laws.FnExactCodesValid", spec := "fnExactCodesValid", recurses := true, apart := false, narrowed := true }
def FnExactCodesValidUptoSaid : Prop := fnExactCodesValidUptoRow.holds Try.pinned (OpenSpec.upto fnExactCodesValidSpec)

/-- 'laws.FnExactCodesData', WHERE WHAT IT READS IS OF BULK AT MOST 1048576: true; the input reads as it did. -/
def fnExactCodesDataUptoRow : OpenClaim := { program := "ytflabakeiecfiaa", sum := "284871e832179ee041f9d632f903db168d527aae718a168f3cf60324390164da", func := "loop.example/soughtstreams/laws.FnExactCodesData", spec := "fnExactCodesData", recurses := true, apart := false, narrowed := true }
def FnExactCodesDataUptoSaid : Prop := fnExactCodesDataUptoRow.holds Try.pinned (OpenSpec.upto fnExactCodesDataSpec)

/-- 'laws.FnExactCodesWidths', WHERE WHAT IT READS IS OF BULK AT MOST 1048576: true; the input reads as it did. -/
def fnExactCodesWidthsUptoRow : OpenClaim := { program := "ytflabakeiecfiaa", sum := "284871e832179ee041f9d632f903db168d527aae718a168f3cf60324390164da", func := "loop.example/soughtstreams/laws.FnExactCodesWidths", spec := "fnExactCodesWidths", recurses := true, apart := false, narrowed := true }
def FnExactCodesWidthsUptoSaid : Prop := fnExactCodesWidthsUptoRow.holds Try.pinned (OpenSpec.upto fnExactCodesWidthsSpec)

end Rows
end Go.Proofs.Ytflabakeiecfiaa
