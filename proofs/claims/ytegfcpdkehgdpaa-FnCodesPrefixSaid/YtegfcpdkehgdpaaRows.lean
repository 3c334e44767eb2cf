/-
  No cell of these rows narrows 'for every input' (looked for: loops, veiled, ifaces, maps, wideKeys, modest, calm, conditions, laid).
  DERIVED. THE GIVEN ROWS OF THIS SEAT. 11 by the template 'for every input the law returns true; each argument reads behind the call as it read before'; 0 by the template 'total and deterministic' (their statements: YtegfcpdkehgdpaaTotals.lean).
  GIVEN WITH THE SEED: the statements are not yours to turn. If you find one false, say at which input.
  Laid BY PROGRAM, IN A SANDBOX (cutbox-rows.mjs): the forced cells as the released guide's own fill.sh prints them over the translation 354feae00a1b32d6… (all of the seat's roots in one cut). By AI agents, Wed Nov 11 2026. No macro, syntax, notation, axiom, sorry.
-/
import Derived.Test.YtegfcpdkehgdpaaChecked
import GoSem.Claim
import GoSem.ClaimJoined
import GoSem.ClaimMapViews
import Derived.JoinedTies
import Derived.KernelRfl
namespace Go.Proofs.Ytegfcpdkehgdpaa
/- THE CELL 'sum', in the pinned program and in every row, IS THE sha256 OF THE DUMP (.gsa) THAT YtegfcpdkehgdpaaProg.lean LOADS. Nothing in Lean hashes anything: it is a label: what it is worth is what the hold of that sum in a sandbox is worth. -/
noncomputable def Try.pinned : Pinned := { name := "ytegfcpdkehgdpaa", sum := "354feae00a1b32d6111bc5b189857a9d2f51fc6e96bdd846e2a9577c4d6d3603", checked := Try.checked }
namespace Rows
def none {H : Type} : Left H := { results := [], args := [] }

/-- 'laws.FnExactAfter': WHATEVER THE INPUT: true; the input reads as it did. -/
def fnExactAfterSpec : ChangeSpec := { name := "fnExactAfter", fn := fun _ => fun
  | [d1, d2] => { results := [.lit (.bool true)], args := [d1, d2] }
  | _ => none }
def fnExactAfterRow : OpenClaim := { program := "ytegfcpdkehgdpaa", sum := "354feae00a1b32d6111bc5b189857a9d2f51fc6e96bdd846e2a9577c4d6d3603", func := "loop.example/soughtstreams/laws.FnExactAfter", spec := "fnExactAfter", recurses := true, apart := false }
def FnExactAfterSaid : Prop := fnExactAfterRow.holds Try.pinned (OpenSpec.ofChange fnExactAfterSpec)

/-- ITS FALSE NEIGHBOUR: 'it returns false'. Refute it at one input. -/
def fnExactAfterWrong : ChangeSpec := { name := "fnExactAfter", fn := fun _ => fun
  | [d1, d2] => { results := [.lit (.bool false)], args := [d1, d2] }
  | _ => none }
def FnExactAfterWrongFalsely : Prop := fnExactAfterRow.holds Try.pinned (OpenSpec.ofChange fnExactAfterWrong)

/-- 'laws.FnExactCodesValid': WHATEVER THE INPUT: true; the input reads as it did. -/
def fnExactCodesValidSpec : ChangeSpec := { name := "fnExactCodesValid", fn := fun _ => fun
  | [d1, d2] => { results := [.lit (.bool true)], args := [d1, d2] }
  | _ => none }
def fnExactCodesValidRow : OpenClaim := { program := "ytegfcpdkehgdpaa", sum := "354feae00a1b32d6111bc5b189857a9d2f51fc6e96bdd846e2a9577c4d6d3603", func := "loop.example/soughtstreams/laws.FnExactCodesValid", spec := "fnExactCodesValid", recurses := true, apart := false }
def FnExactCodesValidSaid : Prop := fnExactCodesValidRow.holds Try.pinned (OpenSpec.ofChange fnExactCodesValidSpec)

/-- ITS FALSE NEIGHBOUR: 'it returns false'. Refute it at one input. -/
def fnExactCodesValidWrong : ChangeSpec := { name := "fnExactCodesValid", fn := fun _ => fun
  | [d1, d2] => { results := [.lit (.bool false)], args := [d1, d2] }
  | _ => none }
def FnExactCodesValidWrongFalsely : Prop := fnExactCodesValidRow.holds Try.pinned (OpenSpec.ofChange fnExactCodesValidWrong)

/-- 'laws.FnExactCodesData': WHATEVER THE INPUT: true; the input reads as it did. -/
def fnExactCodesDataSpec : ChangeSpec := { name := "fnExactCodesData", fn := fun _ => fun
  | [d1, d2] => { results := [.lit (.bool true)], args := [d1, d2] }
  | _ => none }
def fnExactCodesDataRow : OpenClaim := { program := "ytegfcpdkehgdpaa", sum := "354feae00a1b32d6111bc5b189857a9d2f51fc6e96bdd846e2a9577c4d6d3603", func := "loop.example/soughtstreams/laws.FnExactCodesData", spec := "fnExactCodesData", recurses := true, apart := false }
def FnExactCodesDataSaid : Prop := fnExactCodesDataRow.holds Try.pinned (OpenSpec.ofChange fnExactCodesDataSpec)

/-- ITS FALSE NEIGHBOUR: 'it returns false'. Refute it at one input. -/
def fnExactCodesDataWrong : ChangeSpec := { name := "fnExactCodesData", fn := fun _ => fun
  | [d1, d2] => { results := [.lit (.bool false)], args := [d1, d2] }
  | _ => none }
def FnExactCodesDataWrongFalsely : Prop := fnExactCodesDataRow.holds Try.pinned (OpenSpec.ofChange fnExactCodesDataWrong)

/-- 'laws.FnExactCodesWidths': WHATEVER THE INPUT: true; the input reads as it did. -/
def fnExactCodesWidthsSpec : ChangeSpec := { name := "fnExactCodesWidths", fn := fun _ => fun
  | [d1, d2] => { results := [.lit (.bool true)], args := [d1, d2] }
  | _ => none }
def fnExactCodesWidthsRow : OpenClaim := { program := "ytegfcpdkehgdpaa", sum := "354feae00a1b32d6111bc5b189857a9d2f51fc6e96bdd846e2a9577c4d6d3603", func := "loop.example/soughtstreams/laws.FnExactCodesWidths", spec := "fnExactCodesWidths", recurses := true, apart := false }
def FnExactCodesWidthsSaid : Prop := fnExactCodesWidthsRow.holds Try.pinned (OpenSpec.ofChange fnExactCodesWidthsSpec)

/-- ITS FALSE NEIGHBOUR: 'it returns false'. Refute it at one input. -/
def fnExactCodesWidthsWrong : ChangeSpec := { name := "fnExactCodesWidths", fn := fun _ => fun
  | [d1, d2] => { results := [.lit (.bool false)], args := [d1, d2] }
  | _ => none }
def FnExactCodesWidthsWrongFalsely : Prop := fnExactCodesWidthsRow.holds Try.pinned (OpenSpec.ofChange fnExactCodesWidthsWrong)

/-- 'laws.FnCodesPrefix': WHATEVER THE INPUT: true; the input reads as it did. -/
def fnCodesPrefixSpec : ChangeSpec := { name := "fnCodesPrefix", fn := fun _ => fun
  | [d] => { results := [.lit (.bool true)], args := [d] }
  | _ => none }
def fnCodesPrefixRow : OpenClaim := { program := "ytegfcpdkehgdpaa", sum := "354feae00a1b32d6111bc5b189857a9d2f51fc6e96bdd846e2a9577c4d6d3603", func := "loop.example/soughtstreams/laws.FnCodesPrefix", spec := "fnCodesPrefix", recurses := true, apart := false }
def FnCodesPrefixSaid : Prop := fnCodesPrefixRow.holds Try.pinned (OpenSpec.ofChange fnCodesPrefixSpec)

/-- ITS FALSE NEIGHBOUR: 'it returns false'. Refute it at one input. -/
def fnCodesPrefixWrong : ChangeSpec := { name := "fnCodesPrefix", fn := fun _ => fun
  | [d] => { results := [.lit (.bool false)], args := [d] }
  | _ => none }
def FnCodesPrefixWrongFalsely : Prop := fnCodesPrefixRow.holds Try.pinned (OpenSpec.ofChange fnCodesPrefixWrong)

/-- 'laws.FnStart': WHATEVER THE INPUT: true; the input reads as it did. -/
def fnStartSpec : ChangeSpec := { name := "fnStart", fn := fun _ => fun
  | [d] => { results := [.lit (.bool true)], args := [d] }
  | _ => none }
def fnStartRow : OpenClaim := { program := "ytegfcpdkehgdpaa", sum := "354feae00a1b32d6111bc5b189857a9d2f51fc6e96bdd846e2a9577c4d6d3603", func := "loop.example/soughtstreams/laws.FnStart", spec := "fnStart", apart := false }
def FnStartSaid : Prop := fnStartRow.holds Try.pinned (OpenSpec.ofChange fnStartSpec)

/-- ITS FALSE NEIGHBOUR: 'it returns false'. Refute it at one input. -/
def fnStartWrong : ChangeSpec := { name := "fnStart", fn := fun _ => fun
  | [d] => { results := [.lit (.bool false)], args := [d] }
  | _ => none }
def FnStartWrongFalsely : Prop := fnStartRow.holds Try.pinned (OpenSpec.ofChange fnStartWrong)

/-- 'laws.FnWordPrefix': WHATEVER THE INPUT: true; the input reads as it did. -/
def fnWordPrefixSpec : ChangeSpec := { name := "fnWordPrefix", fn := fun _ => fun
  | [d] => { results := [.lit (.bool true)], args := [d] }
  | _ => none }
def fnWordPrefixRow : OpenClaim := { program := "ytegfcpdkehgdpaa", sum := "354feae00a1b32d6111bc5b189857a9d2f51fc6e96bdd846e2a9577c4d6d3603", func := "loop.example/soughtstreams/laws.FnWordPrefix", spec := "fnWordPrefix", recurses := true, apart := false }
def FnWordPrefixSaid : Prop := fnWordPrefixRow.holds Try.pinned (OpenSpec.ofChange fnWordPrefixSpec)

/-- ITS FALSE NEIGHBOUR: 'it returns false'. Refute it at one input. -/
def fnWordPrefixWrong : ChangeSpec := { name := "fnWordPrefix", fn := fun _ => fun
  | [d] => { results := [.lit (.bool false)], args := [d] }
  | _ => none }
def FnWordPrefixWrongFalsely : Prop := fnWordPrefixRow.holds Try.pinned (OpenSpec.ofChange fnWordPrefixWrong)

/-- 'laws.FnGreatest': WHATEVER THE INPUT: true; the input reads as it did. -/
def fnGreatestSpec : ChangeSpec := { name := "fnGreatest", fn := fun _ => fun
  | [d] => { results := [.lit (.bool true)], args := [d] }
  | _ => none }
def fnGreatestRow : OpenClaim := { program := "ytegfcpdkehgdpaa", sum := "354feae00a1b32d6111bc5b189857a9d2f51fc6e96bdd846e2a9577c4d6d3603", func := "loop.example/soughtstreams/laws.FnGreatest", spec := "fnGreatest", recurses := true, apart := false }
def FnGreatestSaid : Prop := fnGreatestRow.holds Try.pinned (OpenSpec.ofChange fnGreatestSpec)

/-- ITS FALSE NEIGHBOUR: 'it returns false'. Refute it at one input. -/
def fnGreatestWrong : ChangeSpec := { name := "fnGreatest", fn := fun _ => fun
  | [d] => { results := [.lit (.bool false)], args := [d] }
  | _ => none }
def FnGreatestWrongFalsely : Prop := fnGreatestRow.holds Try.pinned (OpenSpec.ofChange fnGreatestWrong)

/-- 'laws.FnWidth': WHATEVER THE INPUT: true; the input reads as it did. -/
def fnWidthSpec : ChangeSpec := { name := "fnWidth", fn := fun _ => fun
  | [d] => { results := [.lit (.bool true)], args := [d] }
  | _ => none }
def fnWidthRow : OpenClaim := { program := "ytegfcpdkehgdpaa", sum := "354feae00a1b32d6111bc5b189857a9d2f51fc6e96bdd846e2a9577c4d6d3603", func := "loop.example/soughtstreams/laws.FnWidth", spec := "fnWidth", apart := false }
def FnWidthSaid : Prop := fnWidthRow.holds Try.pinned (OpenSpec.ofChange fnWidthSpec)

/-- ITS FALSE NEIGHBOUR: 'it returns false'. Refute it at one input. -/
def fnWidthWrong : ChangeSpec := { name := "fnWidth", fn := fun _ => fun
  | [d] => { results := [.lit (.bool false)], args := [d] }
  | _ => none }
def FnWidthWrongFalsely : Prop := fnWidthRow.holds Try.pinned (OpenSpec.ofChange fnWidthWrong)

/-- 'laws.FnAfter': WHATEVER THE INPUT: true; the input reads as it did. -/
def fnAfterSpec : ChangeSpec := { name := "fnAfter", fn := fun _ => fun
  | [d] => { results := [.lit (.bool true)], args := [d] }
  | _ => none }
def fnAfterRow : OpenClaim := { program := "ytegfcpdkehgdpaa", sum := "354feae00a1b32d6111bc5b189857a9d2f51fc6e96bdd846e2a9577c4d6d3603", func := "loop.example/soughtstreams/laws.FnAfter", spec := "fnAfter", recurses := true, apart := false }
def FnAfterSaid : Prop := fnAfterRow.holds Try.pinned (OpenSpec.ofChange fnAfterSpec)

/-- ITS FALSE NEIGHBOUR: 'it returns false'. Refute it at one input. -/
def fnAfterWrong : ChangeSpec := { name := "fnAfter", fn := fun _ => fun
  | [d] => { results := [.lit (.bool false)], args := [d] }
  | _ => none }
def FnAfterWrongFalsely : Prop := fnAfterRow.holds Try.pinned (OpenSpec.ofChange fnAfterWrong)

/-- 'laws.FnAfterWord': WHATEVER THE INPUT: true; the input reads as it did. -/
def fnAfterWordSpec : ChangeSpec := { name := "fnAfterWord", fn := fun _ => fun
  | [d] => { results := [.lit (.bool true)], args := [d] }
  | _ => none }
def fnAfterWordRow : OpenClaim := { program := "ytegfcpdkehgdpaa", sum := "354feae00a1b32d6111bc5b189857a9d2f51fc6e96bdd846e2a9577c4d6d3603", func := "loop.example/soughtstreams/laws.FnAfterWord", spec := "fnAfterWord", recurses := true, apart := false }
def FnAfterWordSaid : Prop := fnAfterWordRow.holds Try.pinned (OpenSpec.ofChange fnAfterWordSpec)

/-- ITS FALSE NEIGHBOUR: 'it returns false'. Refute it at one input. -/
def fnAfterWordWrong : ChangeSpec := { name := "fnAfterWord", fn := fun _ => fun
  | [d] => { results := [.lit (.bool false)], args := [d] }
  | _ => none }
def FnAfterWordWrongFalsely : Prop := fnAfterWordRow.holds Try.pinned (OpenSpec.ofChange fnAfterWordWrong)

/- THE SECOND FORM. 'bulk': how many values and letters a reading holds, each counted each time it is reached (what is shared counts as often as it is met; a slice's spare places count too). A statement '..UptoSaid' is the law's where the arguments, and the package variables that the reading takes, are together of bulk at most 1048576: NARROWER than '..Said'. Prove '..Said' where nothing that the law and all that it calls make is longer than what came in: it says more and counts as full. Else prove '..UptoSaid'. A law counts once. -/
mutual
def uptoBulk {H : Type} : DataW H → Nat
  | .lit (.string bytes) => bytes.length + 1
  | .lit _ => 1
  | .nil => 1
  | .ptr d => uptoBulk d + 1
  | .slice elems spare => uptoBulkAll elems + uptoBulkAll spare + 1
  | .agg parts => uptoBulkAll parts + 1
  | .iface _ d => uptoBulk d + 1
  | .map entries => uptoBulkEntries entries + 1
  | .held _ => 1
def uptoBulkAll {H : Type} : List (DataW H) → Nat
  | [] => 0
  | d :: r => uptoBulk d + uptoBulkAll r
def uptoBulkEntries {H : Type} : List (Lit × DataW H) → Nat
  | [] => 0
  | x :: r => uptoBulkEntry x + uptoBulkEntries r
def uptoBulkEntry {H : Type} : Lit × DataW H → Nat
  | (.string bytes, d) => bytes.length + uptoBulk d + 1
  | (_, d) => uptoBulk d + 1
 end
def uptoSmall : (H : Type) → List (DataW H) → Bool := fun _ ds => decide (uptoBulkAll ds ≤ 1048576)
def OpenSpec.upto (s : _root_.Go.ChangeSpec) : _root_.Go.OpenSpec := { _root_.Go.OpenSpec.ofChange s with cond := some uptoSmall }

/-- 'laws.FnExactAfter', WHERE WHAT IT READS IS OF BULK AT MOST 1048576: true; the input reads as it did. -/
def fnExactAfterUptoRow : OpenClaim := { program := "ytegfcpdkehgdpaa", sum := "354feae00a1b32d6111bc5b189857a9d2f51fc6e96bdd846e2a9577c4d6d3603", func := "loop.example/soughtstreams/laws.FnExactAfter", spec := "fnExactAfter", recurses := true, apart := false, narrowed := true }
def FnExactAfterUptoSaid : Prop := fnExactAfterUptoRow.holds Try.pinned (OpenSpec.upto fnExactAfterSpec)

/-- 'laws.FnExactCodesValid', WHERE WHAT IT READS IS OF BULK AT MOST 1048576: true; the input reads as it did. -/
def fnExactCodesValidUptoRow : OpenClaim := { program := "ytegfcpdkehgdpaa", sum := "354feae00a1b32d6111bc5b189857a9d2f51fc6e96bdd846e2a9577c4d6d3603", func := "loop.example/soughtstreams/laws.FnExactCodesValid", spec := "fnExactCodesValid", recurses := true, apart := false, narrowed := true }
def FnExactCodesValidUptoSaid : Prop := fnExactCodesValidUptoRow.holds Try.pinned (OpenSpec.upto fnExactCodesValidSpec)

/-- 'laws.FnExactCodesData', WHERE WHAT IT READS IS OF BULK AT MOST 1048576: true; the input reads as it did. -/
def fnExactCodesDataUptoRow : OpenClaim := { program := "ytegfcpdkehgdpaa", sum := "354feae00a1b32d6111bc5b189857a9d2f51fc6e96bdd846e2a9577c4d6d3603", func := "loop.example/soughtstreams/laws.FnExactCodesData", spec := "fnExactCodesData", recurses := true, apart := false, narrowed := true }
def FnExactCodesDataUptoSaid : Prop := fnExactCodesDataUptoRow.holds Try.pinned (OpenSpec.upto fnExactCodesDataSpec)

/-- 'laws.FnExactCodesWidths', WHERE WHAT IT READS IS OF BULK AT MOST 1048576: true; the input reads as it did. -/
def fnExactCodesWidthsUptoRow : OpenClaim := { program := "ytegfcpdkehgdpaa", sum := "354feae00a1b32d6111bc5b189857a9d2f51fc6e96bdd846e2a9577c4d6d3603", func := "loop.example/soughtstreams/laws.FnExactCodesWidths", spec := "fnExactCodesWidths", recurses := true, apart := false, narrowed := true }
def FnExactCodesWidthsUptoSaid : Prop := fnExactCodesWidthsUptoRow.holds Try.pinned (OpenSpec.upto fnExactCodesWidthsSpec)

/-- 'laws.FnCodesPrefix', WHERE WHAT IT READS IS OF BULK AT MOST 1048576: true; the input reads as it did. -/
def fnCodesPrefixUptoRow : OpenClaim := { program := "ytegfcpdkehgdpaa", sum := "354feae00a1b32d6111bc5b189857a9d2f51fc6e96bdd846e2a9577c4d6d3603", func := "loop.example/soughtstreams/laws.FnCodesPrefix", spec := "fnCodesPrefix", recurses := true, apart := false, narrowed := true }
def FnCodesPrefixUptoSaid : Prop := fnCodesPrefixUptoRow.holds Try.pinned (OpenSpec.upto fnCodesPrefixSpec)

/-- 'laws.FnStart', WHERE WHAT IT READS IS OF BULK AT MOST 1048576: true; the input reads as it did. -/
def fnStartUptoRow : OpenClaim := { program := "ytegfcpdkehgdpaa", sum := "354feae00a1b32d6111bc5b189857a9d2f51fc6e96bdd846e2a9577c4d6d3603", func := "loop.example/soughtstreams/laws.FnStart", spec := "fnStart", apart := false, narrowed := true }
def FnStartUptoSaid : Prop := fnStartUptoRow.holds Try.pinned (OpenSpec.upto fnStartSpec)

/-- 'laws.FnWordPrefix', WHERE WHAT IT READS IS OF BULK AT MOST 1048576: true; the input reads as it did. -/
def fnWordPrefixUptoRow : OpenClaim := { program := "ytegfcpdkehgdpaa", sum := "354feae00a1b32d6111bc5b189857a9d2f51fc6e96bdd846e2a9577c4d6d3603", func := "loop.example/soughtstreams/laws.FnWordPrefix", spec := "fnWordPrefix", recurses := true, apart := false, narrowed := true }
def FnWordPrefixUptoSaid : Prop := fnWordPrefixUptoRow.holds Try.pinned (OpenSpec.upto fnWordPrefixSpec)

/-- 'laws.FnGreatest', WHERE WHAT IT READS IS OF BULK AT MOST 1048576: true; the input reads as it did. -/
def fnGreatestUptoRow : OpenClaim := { program := "ytegfcpdkehgdpaa", sum := "354feae00a1b32d6111bc5b189857a9d2f51fc6e96bdd846e2a9577c4d6d3603", func := "loop.example/soughtstreams/laws.FnGreatest", spec := "fnGreatest", recurses := true, apart := false, narrowed := true }
def FnGreatestUptoSaid : Prop := fnGreatestUptoRow.holds Try.pinned (OpenSpec.upto fnGreatestSpec)

/-- 'laws.FnWidth', WHERE WHAT IT READS IS OF BULK AT MOST 1048576: true; the input reads as it did. -/
def fnWidthUptoRow : OpenClaim := { program := "ytegfcpdkehgdpaa", sum := "354feae00a1b32d6111bc5b189857a9d2f51fc6e96bdd846e2a9577c4d6d3603", func := "loop.example/soughtstreams/laws.FnWidth", spec := "fnWidth", apart := false, narrowed := true }
def FnWidthUptoSaid : Prop := fnWidthUptoRow.holds Try.pinned (OpenSpec.upto fnWidthSpec)

/-- 'laws.FnAfter', WHERE WHAT IT READS IS OF BULK AT MOST 1048576: true; the input reads as it did. -/
def fnAfterUptoRow : OpenClaim := { program := "ytegfcpdkehgdpaa", sum := "354feae00a1b32d6111bc5b189857a9d2f51fc6e96bdd846e2a9577c4d6d3603", func := "loop.example/soughtstreams/laws.FnAfter", spec := "fnAfter", recurses := true, apart := false, narrowed := true }
def FnAfterUptoSaid : Prop := fnAfterUptoRow.holds Try.pinned (OpenSpec.upto fnAfterSpec)

/-- 'laws.FnAfterWord', WHERE WHAT IT READS IS OF BULK AT MOST 1048576: true; the input reads as it did. -/
def fnAfterWordUptoRow : OpenClaim := { program := "ytegfcpdkehgdpaa", sum := "354feae00a1b32d6111bc5b189857a9d2f51fc6e96bdd846e2a9577c4d6d3603", func := "loop.example/soughtstreams/laws.FnAfterWord", spec := "fnAfterWord", recurses := true, apart := false, narrowed := true }
def FnAfterWordUptoSaid : Prop := fnAfterWordUptoRow.holds Try.pinned (OpenSpec.upto fnAfterWordSpec)

end Rows
end Go.Proofs.Ytegfcpdkehgdpaa
