/-
  No cell of these rows narrows 'for every input' (looked for: loops, veiled, ifaces, maps, wideKeys, modest, calm, conditions, laid).
  DERIVED. THE GIVEN ROWS OF THIS SEAT. 14 by the template 'for every input the law returns true; each argument reads behind the call as it read before'; 0 by the template 'total and deterministic' (their statements: YtkecappciglonaaTotals.lean).
  GIVEN WITH THE SEED: the statements are not yours to turn. If you find one false, say at which input.
  Laid BY PROGRAM, IN A SANDBOX (cutbox-rows.mjs): the forced cells as the released guide's own fill.sh prints them over the translation b35accca49e5176d… (all of the seat's roots in one cut). By AI agents, Wed Nov 11 2026. No macro, syntax, notation, axiom, sorry.
-/
import Derived.Test.YtkecappciglonaaChecked
import GoSem.Claim
import GoSem.ClaimJoined
import GoSem.ClaimMapViews
import Derived.JoinedTies
import Derived.KernelRfl
namespace Go.Proofs.Ytkecappciglonaa
/- THE CELL 'sum', in the pinned program and in every row, IS THE sha256 OF THE DUMP (.gsa) THAT YtkecappciglonaaProg.lean LOADS. Nothing in Lean hashes anything: it is a label: what it is worth is what the hold of that sum in a sandbox is worth. -/
noncomputable def Try.pinned : Pinned := { name := "ytkecappciglonaa", sum := "b35accca49e5176d59a469e16bd75428b39856ffd9e082064bc094a8008c9128", checked := Try.checked }
namespace Rows
def none {H : Type} : Left H := { results := [], args := [] }

/-- 'laws.FnBitsNeeded': WHATEVER THE INPUT: true; the input reads as it did. -/
def fnBitsNeededSpec : ChangeSpec := { name := "fnBitsNeeded", fn := fun _ => fun
  | [d] => { results := [.lit (.bool true)], args := [d] }
  | _ => none }
def fnBitsNeededRow : OpenClaim := { program := "ytkecappciglonaa", sum := "b35accca49e5176d59a469e16bd75428b39856ffd9e082064bc094a8008c9128", func := "loop.example/soughtstreams/laws.FnBitsNeeded", spec := "fnBitsNeeded", apart := false }
def FnBitsNeededSaid : Prop := fnBitsNeededRow.holds Try.pinned (OpenSpec.ofChange fnBitsNeededSpec)

/-- ITS FALSE NEIGHBOUR: 'it returns false'. Refute it at one input. -/
def fnBitsNeededWrong : ChangeSpec := { name := "fnBitsNeeded", fn := fun _ => fun
  | [d] => { results := [.lit (.bool false)], args := [d] }
  | _ => none }
def FnBitsNeededWrongFalsely : Prop := fnBitsNeededRow.holds Try.pinned (OpenSpec.ofChange fnBitsNeededWrong)

/-- 'laws.FnBitAt': WHATEVER THE INPUT: true; the input reads as it did. -/
def fnBitAtSpec : ChangeSpec := { name := "fnBitAt", fn := fun _ => fun
  | [d] => { results := [.lit (.bool true)], args := [d] }
  | _ => none }
def fnBitAtRow : OpenClaim := { program := "ytkecappciglonaa", sum := "b35accca49e5176d59a469e16bd75428b39856ffd9e082064bc094a8008c9128", func := "loop.example/soughtstreams/laws.FnBitAt", spec := "fnBitAt", apart := false }
def FnBitAtSaid : Prop := fnBitAtRow.holds Try.pinned (OpenSpec.ofChange fnBitAtSpec)

/-- ITS FALSE NEIGHBOUR: 'it returns false'. Refute it at one input. -/
def fnBitAtWrong : ChangeSpec := { name := "fnBitAt", fn := fun _ => fun
  | [d] => { results := [.lit (.bool false)], args := [d] }
  | _ => none }
def FnBitAtWrongFalsely : Prop := fnBitAtRow.holds Try.pinned (OpenSpec.ofChange fnBitAtWrong)

/-- 'laws.FnCodeBits': WHATEVER THE INPUT: true; the input reads as it did. -/
def fnCodeBitsSpec : ChangeSpec := { name := "fnCodeBits", fn := fun _ => fun
  | [d] => { results := [.lit (.bool true)], args := [d] }
  | _ => none }
def fnCodeBitsRow : OpenClaim := { program := "ytkecappciglonaa", sum := "b35accca49e5176d59a469e16bd75428b39856ffd9e082064bc094a8008c9128", func := "loop.example/soughtstreams/laws.FnCodeBits", spec := "fnCodeBits", apart := false }
def FnCodeBitsSaid : Prop := fnCodeBitsRow.holds Try.pinned (OpenSpec.ofChange fnCodeBitsSpec)

/-- ITS FALSE NEIGHBOUR: 'it returns false'. Refute it at one input. -/
def fnCodeBitsWrong : ChangeSpec := { name := "fnCodeBits", fn := fun _ => fun
  | [d] => { results := [.lit (.bool false)], args := [d] }
  | _ => none }
def FnCodeBitsWrongFalsely : Prop := fnCodeBitsRow.holds Try.pinned (OpenSpec.ofChange fnCodeBitsWrong)

/-- 'laws.FnSpanBits': WHATEVER THE INPUT: true; the input reads as it did. -/
def fnSpanBitsSpec : ChangeSpec := { name := "fnSpanBits", fn := fun _ => fun
  | [d] => { results := [.lit (.bool true)], args := [d] }
  | _ => none }
def fnSpanBitsRow : OpenClaim := { program := "ytkecappciglonaa", sum := "b35accca49e5176d59a469e16bd75428b39856ffd9e082064bc094a8008c9128", func := "loop.example/soughtstreams/laws.FnSpanBits", spec := "fnSpanBits", apart := false }
def FnSpanBitsSaid : Prop := fnSpanBitsRow.holds Try.pinned (OpenSpec.ofChange fnSpanBitsSpec)

/-- ITS FALSE NEIGHBOUR: 'it returns false'. Refute it at one input. -/
def fnSpanBitsWrong : ChangeSpec := { name := "fnSpanBits", fn := fun _ => fun
  | [d] => { results := [.lit (.bool false)], args := [d] }
  | _ => none }
def FnSpanBitsWrongFalsely : Prop := fnSpanBitsRow.holds Try.pinned (OpenSpec.ofChange fnSpanBitsWrong)

/-- 'laws.FnDataFits': WHATEVER THE INPUT: true; the input reads as it did. -/
def fnDataFitsSpec : ChangeSpec := { name := "fnDataFits", fn := fun _ => fun
  | [d] => { results := [.lit (.bool true)], args := [d] }
  | _ => none }
def fnDataFitsRow : OpenClaim := { program := "ytkecappciglonaa", sum := "b35accca49e5176d59a469e16bd75428b39856ffd9e082064bc094a8008c9128", func := "loop.example/soughtstreams/laws.FnDataFits", spec := "fnDataFits", apart := false }
def FnDataFitsSaid : Prop := fnDataFitsRow.holds Try.pinned (OpenSpec.ofChange fnDataFitsSpec)

/-- ITS FALSE NEIGHBOUR: 'it returns false'. Refute it at one input. -/
def fnDataFitsWrong : ChangeSpec := { name := "fnDataFits", fn := fun _ => fun
  | [d] => { results := [.lit (.bool false)], args := [d] }
  | _ => none }
def FnDataFitsWrongFalsely : Prop := fnDataFitsRow.holds Try.pinned (OpenSpec.ofChange fnDataFitsWrong)

/-- 'laws.FnSettingCodes': WHATEVER THE INPUT: true; the input reads as it did. -/
def fnSettingCodesSpec : ChangeSpec := { name := "fnSettingCodes", fn := fun _ => fun
  | [d] => { results := [.lit (.bool true)], args := [d] }
  | _ => none }
def fnSettingCodesRow : OpenClaim := { program := "ytkecappciglonaa", sum := "b35accca49e5176d59a469e16bd75428b39856ffd9e082064bc094a8008c9128", func := "loop.example/soughtstreams/laws.FnSettingCodes", spec := "fnSettingCodes", apart := false }
def FnSettingCodesSaid : Prop := fnSettingCodesRow.holds Try.pinned (OpenSpec.ofChange fnSettingCodesSpec)

/-- ITS FALSE NEIGHBOUR: 'it returns false'. Refute it at one input. -/
def fnSettingCodesWrong : ChangeSpec := { name := "fnSettingCodes", fn := fun _ => fun
  | [d] => { results := [.lit (.bool false)], args := [d] }
  | _ => none }
def FnSettingCodesWrongFalsely : Prop := fnSettingCodesRow.holds Try.pinned (OpenSpec.ofChange fnSettingCodesWrong)

/-- 'laws.FnHexText': WHATEVER THE INPUT: true; the input reads as it did. -/
def fnHexTextSpec : ChangeSpec := { name := "fnHexText", fn := fun _ => fun
  | [d1, d2] => { results := [.lit (.bool true)], args := [d1, d2] }
  | _ => none }
def fnHexTextRow : OpenClaim := { program := "ytkecappciglonaa", sum := "b35accca49e5176d59a469e16bd75428b39856ffd9e082064bc094a8008c9128", func := "loop.example/soughtstreams/laws.FnHexText", spec := "fnHexText", inPlace := ["internal/bytealg.IndexByteString"], apart := false }
def FnHexTextSaid : Prop := fnHexTextRow.holds Try.pinned (OpenSpec.ofChange fnHexTextSpec)

/-- ITS FALSE NEIGHBOUR: 'it returns false'. Refute it at one input. -/
def fnHexTextWrong : ChangeSpec := { name := "fnHexText", fn := fun _ => fun
  | [d1, d2] => { results := [.lit (.bool false)], args := [d1, d2] }
  | _ => none }
def FnHexTextWrongFalsely : Prop := fnHexTextRow.holds Try.pinned (OpenSpec.ofChange fnHexTextWrong)

/-- 'laws.FnReverseBits': WHATEVER THE INPUT: true; the input reads as it did. -/
def fnReverseBitsSpec : ChangeSpec := { name := "fnReverseBits", fn := fun _ => fun
  | [d] => { results := [.lit (.bool true)], args := [d] }
  | _ => none }
def fnReverseBitsRow : OpenClaim := { program := "ytkecappciglonaa", sum := "b35accca49e5176d59a469e16bd75428b39856ffd9e082064bc094a8008c9128", func := "loop.example/soughtstreams/laws.FnReverseBits", spec := "fnReverseBits", apart := false }
def FnReverseBitsSaid : Prop := fnReverseBitsRow.holds Try.pinned (OpenSpec.ofChange fnReverseBitsSpec)

/-- ITS FALSE NEIGHBOUR: 'it returns false'. Refute it at one input. -/
def fnReverseBitsWrong : ChangeSpec := { name := "fnReverseBits", fn := fun _ => fun
  | [d] => { results := [.lit (.bool false)], args := [d] }
  | _ => none }
def FnReverseBitsWrongFalsely : Prop := fnReverseBitsRow.holds Try.pinned (OpenSpec.ofChange fnReverseBitsWrong)

/-- 'laws.FnUnpackPack': WHATEVER THE INPUT: true; the input reads as it did. -/
def fnUnpackPackSpec : ChangeSpec := { name := "fnUnpackPack", fn := fun _ => fun
  | [d] => { results := [.lit (.bool true)], args := [d] }
  | _ => none }
def fnUnpackPackRow : OpenClaim := { program := "ytkecappciglonaa", sum := "b35accca49e5176d59a469e16bd75428b39856ffd9e082064bc094a8008c9128", func := "loop.example/soughtstreams/laws.FnUnpackPack", spec := "fnUnpackPack", apart := false }
def FnUnpackPackSaid : Prop := fnUnpackPackRow.holds Try.pinned (OpenSpec.ofChange fnUnpackPackSpec)

/-- ITS FALSE NEIGHBOUR: 'it returns false'. Refute it at one input. -/
def fnUnpackPackWrong : ChangeSpec := { name := "fnUnpackPack", fn := fun _ => fun
  | [d] => { results := [.lit (.bool false)], args := [d] }
  | _ => none }
def FnUnpackPackWrongFalsely : Prop := fnUnpackPackRow.holds Try.pinned (OpenSpec.ofChange fnUnpackPackWrong)

/-- 'laws.FnTurnBytes': WHATEVER THE INPUT: true; the input reads as it did. -/
def fnTurnBytesSpec : ChangeSpec := { name := "fnTurnBytes", fn := fun _ => fun
  | [d] => { results := [.lit (.bool true)], args := [d] }
  | _ => none }
def fnTurnBytesRow : OpenClaim := { program := "ytkecappciglonaa", sum := "b35accca49e5176d59a469e16bd75428b39856ffd9e082064bc094a8008c9128", func := "loop.example/soughtstreams/laws.FnTurnBytes", spec := "fnTurnBytes", apart := false }
def FnTurnBytesSaid : Prop := fnTurnBytesRow.holds Try.pinned (OpenSpec.ofChange fnTurnBytesSpec)

/-- ITS FALSE NEIGHBOUR: 'it returns false'. Refute it at one input. -/
def fnTurnBytesWrong : ChangeSpec := { name := "fnTurnBytes", fn := fun _ => fun
  | [d] => { results := [.lit (.bool false)], args := [d] }
  | _ => none }
def FnTurnBytesWrongFalsely : Prop := fnTurnBytesRow.holds Try.pinned (OpenSpec.ofChange fnTurnBytesWrong)

/-- 'laws.FnBitsCode': WHATEVER THE INPUT: true; the input reads as it did. -/
def fnBitsCodeSpec : ChangeSpec := { name := "fnBitsCode", fn := fun _ => fun
  | [d] => { results := [.lit (.bool true)], args := [d] }
  | _ => none }
def fnBitsCodeRow : OpenClaim := { program := "ytkecappciglonaa", sum := "b35accca49e5176d59a469e16bd75428b39856ffd9e082064bc094a8008c9128", func := "loop.example/soughtstreams/laws.FnBitsCode", spec := "fnBitsCode", apart := false }
def FnBitsCodeSaid : Prop := fnBitsCodeRow.holds Try.pinned (OpenSpec.ofChange fnBitsCodeSpec)

/-- ITS FALSE NEIGHBOUR: 'it returns false'. Refute it at one input. -/
def fnBitsCodeWrong : ChangeSpec := { name := "fnBitsCode", fn := fun _ => fun
  | [d] => { results := [.lit (.bool false)], args := [d] }
  | _ => none }
def FnBitsCodeWrongFalsely : Prop := fnBitsCodeRow.holds Try.pinned (OpenSpec.ofChange fnBitsCodeWrong)

/-- 'laws.FnPadBits': WHATEVER THE INPUT: true; the input reads as it did. -/
def fnPadBitsSpec : ChangeSpec := { name := "fnPadBits", fn := fun _ => fun
  | [d] => { results := [.lit (.bool true)], args := [d] }
  | _ => none }
def fnPadBitsRow : OpenClaim := { program := "ytkecappciglonaa", sum := "b35accca49e5176d59a469e16bd75428b39856ffd9e082064bc094a8008c9128", func := "loop.example/soughtstreams/laws.FnPadBits", spec := "fnPadBits", inPlace := ["internal/abi.NoEscape", "internal/bytealg.MakeNoZero"], apart := false }
def FnPadBitsSaid : Prop := fnPadBitsRow.holds Try.pinned (OpenSpec.ofChange fnPadBitsSpec)

/-- ITS FALSE NEIGHBOUR: 'it returns false'. Refute it at one input. -/
def fnPadBitsWrong : ChangeSpec := { name := "fnPadBits", fn := fun _ => fun
  | [d] => { results := [.lit (.bool false)], args := [d] }
  | _ => none }
def FnPadBitsWrongFalsely : Prop := fnPadBitsRow.holds Try.pinned (OpenSpec.ofChange fnPadBitsWrong)

/-- 'laws.FnPackJoin': WHATEVER THE INPUT: true; the input reads as it did. -/
def fnPackJoinSpec : ChangeSpec := { name := "fnPackJoin", fn := fun _ => fun
  | [d1, d2] => { results := [.lit (.bool true)], args := [d1, d2] }
  | _ => none }
def fnPackJoinRow : OpenClaim := { program := "ytkecappciglonaa", sum := "b35accca49e5176d59a469e16bd75428b39856ffd9e082064bc094a8008c9128", func := "loop.example/soughtstreams/laws.FnPackJoin", spec := "fnPackJoin", inPlace := ["internal/abi.NoEscape", "internal/bytealg.MakeNoZero"], apart := false }
def FnPackJoinSaid : Prop := fnPackJoinRow.holds Try.pinned (OpenSpec.ofChange fnPackJoinSpec)

/-- ITS FALSE NEIGHBOUR: 'it returns false'. Refute it at one input. -/
def fnPackJoinWrong : ChangeSpec := { name := "fnPackJoin", fn := fun _ => fun
  | [d1, d2] => { results := [.lit (.bool false)], args := [d1, d2] }
  | _ => none }
def FnPackJoinWrongFalsely : Prop := fnPackJoinRow.holds Try.pinned (OpenSpec.ofChange fnPackJoinWrong)

/-- 'laws.FnPackUnpack': WHATEVER THE INPUT: true; the input reads as it did. -/
def fnPackUnpackSpec : ChangeSpec := { name := "fnPackUnpack", fn := fun _ => fun
  | [d] => { results := [.lit (.bool true)], args := [d] }
  | _ => none }
def fnPackUnpackRow : OpenClaim := { program := "ytkecappciglonaa", sum := "b35accca49e5176d59a469e16bd75428b39856ffd9e082064bc094a8008c9128", func := "loop.example/soughtstreams/laws.FnPackUnpack", spec := "fnPackUnpack", inPlace := ["internal/abi.NoEscape", "internal/bytealg.MakeNoZero"], apart := false }
def FnPackUnpackSaid : Prop := fnPackUnpackRow.holds Try.pinned (OpenSpec.ofChange fnPackUnpackSpec)

/-- ITS FALSE NEIGHBOUR: 'it returns false'. Refute it at one input. -/
def fnPackUnpackWrong : ChangeSpec := { name := "fnPackUnpack", fn := fun _ => fun
  | [d] => { results := [.lit (.bool false)], args := [d] }
  | _ => none }
def FnPackUnpackWrongFalsely : Prop := fnPackUnpackRow.holds Try.pinned (OpenSpec.ofChange fnPackUnpackWrong)

/- THE SECOND FORM. 'bulk': how many values and letters a reading holds, each counted each time it is reached (what is shared counts as often as it is met; a slice's spare places count too). A statement '..UptoSaid' is the law's where the arguments, and the package variables that the reading takes, are together of bulk at most 1048576: NARROWER than '..Said'. Prove '..Said' where nothing that the law and all that it calls make is longer than what came in: it says more and counts as full. Else prove '..UptoSaid'. A law counts once. -/
mutual
def uptoBulk {H : Type} : DataW H → Nat
  | .lit (.string bytes) => bytes.length + 1
  | .lit _ => 1
  | .nil => 1
  | .ptr d => uptoBulk d + 1
  | .slice elems spare => uptoBulkAll elems + uptoBulkAll spare + 1
  | .agg parts => uptoBulkAll parts + 1
  | .iface _ d => uptoBulk d + 1
  | .map entries => uptoBulkEntries entries + 1
  | .held _ => 1
def uptoBulkAll {H : Type} : List (DataW H) → Nat
  | [] => 0
  | d :: r => uptoBulk d + uptoBulkAll r
def uptoBulkEntries {H : Type} : List (Lit × DataW H) → Nat
  | [] => 0
  | x :: r => uptoBulkEntry x + uptoBulkEntries r
def uptoBulkEntry {H : Type} : Lit × DataW H → Nat
  | (.string bytes, d) => bytes.length + uptoBulk d + 1
  | (_, d) => uptoBulk d + 1
 end
def uptoSmall : (H : Type) → List (DataW H) → Bool := fun _ ds => decide (uptoBulkAll ds ≤ 1048576)
def OpenSpec.upto (s : _root_.Go.ChangeSpec) : _root_.Go.OpenSpec := { _root_.Go.OpenSpec.ofChange s with cond := some uptoSmall }

/-- 'laws.FnBitsNeeded', WHERE WHAT IT READS IS OF BULK AT MOST 1048576: true; the input reads as it did. -/
def fnBitsNeededUptoRow : OpenClaim := { program := "ytkecappciglonaa", sum := "b35accca49e5176d59a469e16bd75428b39856ffd9e082064bc094a8008c9128", func := "loop.example/soughtstreams/laws.FnBitsNeeded", spec := "fnBitsNeeded", apart := false, narrowed := true }
def FnBitsNeededUptoSaid : Prop := fnBitsNeededUptoRow.holds Try.pinned (OpenSpec.upto fnBitsNeededSpec)

/-- 'laws.FnBitAt', WHERE WHAT IT READS IS OF BULK AT MOST 1048576: true; the input reads as it did. -/
def fnBitAtUptoRow : OpenClaim := { program := "ytkecappciglonaa", sum := "b35accca49e5176d59a469e16bd75428b39856ffd9e082064bc094a8008c9128", func := "loop.example/soughtstreams/laws.FnBitAt", spec := "fnBitAt", apart := false, narrowed := true }
def FnBitAtUptoSaid : Prop := fnBitAtUptoRow.holds Try.pinned (OpenSpec.upto fnBitAtSpec)

/-- 'laws.FnCodeBits', WHERE WHAT IT READS IS OF BULK AT MOST 1048576: true; the input reads as it did. -/
def fnCodeBitsUptoRow : OpenClaim := { program := "ytkecappciglonaa", sum := "b35accca49e5176d59a469e16bd75428b39856ffd9e082064bc094a8008c9128", func := "loop.example/soughtstreams/laws.FnCodeBits", spec := "fnCodeBits", apart := false, narrowed := true }
def FnCodeBitsUptoSaid : Prop := fnCodeBitsUptoRow.holds Try.pinned (OpenSpec.upto fnCodeBitsSpec)

/-- 'laws.FnSpanBits', WHERE WHAT IT READS IS OF BULK AT MOST 1048576: true; the input reads as it did. -/
def fnSpanBitsUptoRow : OpenClaim := { program := "ytkecappciglonaa", sum := "b35accca49e5176d59a469e16bd75428b39856ffd9e082064bc094a8008c9128", func := "loop.example/soughtstreams/laws.FnSpanBits", spec := "fnSpanBits", apart := false, narrowed := true }
def FnSpanBitsUptoSaid : Prop := fnSpanBitsUptoRow.holds Try.pinned (OpenSpec.upto fnSpanBitsSpec)

/-- 'laws.FnDataFits', WHERE WHAT IT READS IS OF BULK AT MOST 1048576: true; the input reads as it did. -/
def fnDataFitsUptoRow : OpenClaim := { program := "ytkecappciglonaa", sum := "b35accca49e5176d59a469e16bd75428b39856ffd9e082064bc094a8008c9128", func := "loop.example/soughtstreams/laws.FnDataFits", spec := "fnDataFits", apart := false, narrowed := true }
def FnDataFitsUptoSaid : Prop := fnDataFitsUptoRow.holds Try.pinned (OpenSpec.upto fnDataFitsSpec)

/-- 'laws.FnSettingCodes', WHERE WHAT IT READS IS OF BULK AT MOST 1048576: true; the input reads as it did. -/
def fnSettingCodesUptoRow : OpenClaim := { program := "ytkecappciglonaa", sum := "b35accca49e5176d59a469e16bd75428b39856ffd9e082064bc094a8008c9128", func := "loop.example/soughtstreams/laws.FnSettingCodes", spec := "fnSettingCodes", apart := false, narrowed := true }
def FnSettingCodesUptoSaid : Prop := fnSettingCodesUptoRow.holds Try.pinned (OpenSpec.upto fnSettingCodesSpec)

/-- 'laws.FnHexText', WHERE WHAT IT READS IS OF BULK AT MOST 1048576: true; the input reads as it did. -/
def fnHexTextUptoRow : OpenClaim := { program := "ytkecappciglonaa", sum := "b35accca49e5176d59a469e16bd75428b39856ffd9e082064bc094a8008c9128", func := "loop.example/soughtstreams/laws.FnHexText", spec := "fnHexText", inPlace := ["internal/bytealg.IndexByteString"], apart := false, narrowed := true }
def FnHexTextUptoSaid : Prop := fnHexTextUptoRow.holds Try.pinned (OpenSpec.upto fnHexTextSpec)

/-- 'laws.FnReverseBits', WHERE WHAT IT READS IS OF BULK AT MOST 1048576: true; the input reads as it did. -/
def fnReverseBitsUptoRow : OpenClaim := { program := "ytkecappciglonaa", sum := "b35accca49e5176d59a469e16bd75428b39856ffd9e082064bc094a8008c9128", func := "loop.example/soughtstreams/laws.FnReverseBits", spec := "fnReverseBits", apart := false, narrowed := true }
def FnReverseBitsUptoSaid : Prop := fnReverseBitsUptoRow.holds Try.pinned (OpenSpec.upto fnReverseBitsSpec)

/-- 'laws.FnUnpackPack', WHERE WHAT IT READS IS OF BULK AT MOST 1048576: true; the input reads as it did. -/
def fnUnpackPackUptoRow : OpenClaim := { program := "ytkecappciglonaa", sum := "b35accca49e5176d59a469e16bd75428b39856ffd9e082064bc094a8008c9128", func := "loop.example/soughtstreams/laws.FnUnpackPack", spec := "fnUnpackPack", apart := false, narrowed := true }
def FnUnpackPackUptoSaid : Prop := fnUnpackPackUptoRow.holds Try.pinned (OpenSpec.upto fnUnpackPackSpec)

/-- 'laws.FnTurnBytes', WHERE WHAT IT READS IS OF BULK AT MOST 1048576: true; the input reads as it did. -/
def fnTurnBytesUptoRow : OpenClaim := { program := "ytkecappciglonaa", sum := "b35accca49e5176d59a469e16bd75428b39856ffd9e082064bc094a8008c9128", func := "loop.example/soughtstreams/laws.FnTurnBytes", spec := "fnTurnBytes", apart := false, narrowed := true }
def FnTurnBytesUptoSaid : Prop := fnTurnBytesUptoRow.holds Try.pinned (OpenSpec.upto fnTurnBytesSpec)

/-- 'laws.FnBitsCode', WHERE WHAT IT READS IS OF BULK AT MOST 1048576: true; the input reads as it did. -/
def fnBitsCodeUptoRow : OpenClaim := { program := "ytkecappciglonaa", sum := "b35accca49e5176d59a469e16bd75428b39856ffd9e082064bc094a8008c9128", func := "loop.example/soughtstreams/laws.FnBitsCode", spec := "fnBitsCode", apart := false, narrowed := true }
def FnBitsCodeUptoSaid : Prop := fnBitsCodeUptoRow.holds Try.pinned (OpenSpec.upto fnBitsCodeSpec)

/-- 'laws.FnPadBits', WHERE WHAT IT READS IS OF BULK AT MOST 1048576: true; the input reads as it did. -/
def fnPadBitsUptoRow : OpenClaim := { program := "ytkecappciglonaa", sum := "b35accca49e5176d59a469e16bd75428b39856ffd9e082064bc094a8008c9128", func := "loop.example/soughtstreams/laws.FnPadBits", spec := "fnPadBits", inPlace := ["internal/abi.NoEscape", "internal/bytealg.MakeNoZero"], apart := false, narrowed := true }
def FnPadBitsUptoSaid : Prop := fnPadBitsUptoRow.holds Try.pinned (OpenSpec.upto fnPadBitsSpec)

/-- 'laws.FnPackJoin', WHERE WHAT IT READS IS OF BULK AT MOST 1048576: true; the input reads as it did. -/
def fnPackJoinUptoRow : OpenClaim := { program := "ytkecappciglonaa", sum := "b35accca49e5176d59a469e16bd75428b39856ffd9e082064bc094a8008c9128", func := "loop.example/soughtstreams/laws.FnPackJoin", spec := "fnPackJoin", inPlace := ["internal/abi.NoEscape", "internal/bytealg.MakeNoZero"], apart := false, narrowed := true }
def FnPackJoinUptoSaid : Prop := fnPackJoinUptoRow.holds Try.pinned (OpenSpec.upto fnPackJoinSpec)

/-- 'laws.FnPackUnpack', WHERE WHAT IT READS IS OF BULK AT MOST 1048576: true; the input reads as it did. -/
def fnPackUnpackUptoRow : OpenClaim := { program := "ytkecappciglonaa", sum := "b35accca49e5176d59a469e16bd75428b39856ffd9e082064bc094a8008c9128", func := "loop.example/soughtstreams/laws.FnPackUnpack", spec := "fnPackUnpack", inPlace := ["internal/abi.NoEscape", "internal/bytealg.MakeNoZero"], apart := false, narrowed := true }
def FnPackUnpackUptoSaid : Prop := fnPackUnpackUptoRow.holds Try.pinned (OpenSpec.upto fnPackUnpackSpec)

end Rows
end Go.Proofs.Ytkecappciglonaa
