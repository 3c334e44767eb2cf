/-
  No cell of these rows narrows 'for every input' (looked for: loops, veiled, ifaces, maps, wideKeys, modest, calm, conditions, laid).
  DERIVED. THE GIVEN ROWS OF THIS SEAT. 19 by the template 'for every input the law returns true; each argument reads behind the call as it read before'; 0 by the template 'total and deterministic' (their statements: YtogkpghomfihnaaTotals.lean).
  GIVEN WITH THE SEED: the statements are not yours to turn. If you find one false, say at which input.
  Laid BY PROGRAM, IN A SANDBOX (cutbox-rows.mjs): the forced cells as the released guide's own fill.sh prints them over the translation a5911e697942f232… (all of the seat's roots in one cut). By AI agents, Wed Nov 11 2026. No macro, syntax, notation, axiom, sorry.
-/
import Derived.Test.YtogkpghomfihnaaChecked
import GoSem.Claim
import GoSem.ClaimJoined
import GoSem.ClaimMapViews
import Derived.JoinedTies
import Derived.KernelRfl
namespace Go.Proofs.Ytogkpghomfihnaa
/- THE CELL 'sum', in the pinned program and in every row, IS THE sha256 OF THE DUMP (.gsa) THAT YtogkpghomfihnaaProg.lean LOADS. Nothing in Lean hashes anything: it is a label: what it is worth is what the hold of that sum in a sandbox is worth. -/
noncomputable def Try.pinned : Pinned := { name := "ytogkpghomfihnaa", sum := "a5911e697942f232367a0e56e6f07f743f1de9f7fc98360195286ace00c0d9f8", checked := Try.checked }
namespace Rows
def none {H : Type} : Left H := { results := [], args := [] }

/-- 'laws.FnExactConstants': WHATEVER THE INPUT: true; the input reads as it did. -/
def fnExactConstantsSpec : ChangeSpec := { name := "fnExactConstants", fn := fun _ => fun
  | [] => { results := [.lit (.bool true)], args := [] }
  | _ => none }
def fnExactConstantsRow : OpenClaim := { program := "ytogkpghomfihnaa", sum := "a5911e697942f232367a0e56e6f07f743f1de9f7fc98360195286ace00c0d9f8", func := "loop.example/soughtstreams/laws.FnExactConstants", spec := "fnExactConstants", apart := false }
def FnExactConstantsSaid : Prop := fnExactConstantsRow.holds Try.pinned (OpenSpec.ofChange fnExactConstantsSpec)

/-- ITS FALSE NEIGHBOUR: 'it returns false'. Refute it at one input. -/
def fnExactConstantsWrong : ChangeSpec := { name := "fnExactConstants", fn := fun _ => fun
  | [] => { results := [.lit (.bool false)], args := [] }
  | _ => none }
def FnExactConstantsWrongFalsely : Prop := fnExactConstantsRow.holds Try.pinned (OpenSpec.ofChange fnExactConstantsWrong)

/-- 'laws.FnExactSettingValid': WHATEVER THE INPUT: true; the input reads as it did. -/
def fnExactSettingValidSpec : ChangeSpec := { name := "fnExactSettingValid", fn := fun _ => fun
  | [d] => { results := [.lit (.bool true)], args := [d] }
  | _ => none }
def fnExactSettingValidRow : OpenClaim := { program := "ytogkpghomfihnaa", sum := "a5911e697942f232367a0e56e6f07f743f1de9f7fc98360195286ace00c0d9f8", func := "loop.example/soughtstreams/laws.FnExactSettingValid", spec := "fnExactSettingValid", apart := false }
def FnExactSettingValidSaid : Prop := fnExactSettingValidRow.holds Try.pinned (OpenSpec.ofChange fnExactSettingValidSpec)

/-- ITS FALSE NEIGHBOUR: 'it returns false'. Refute it at one input. -/
def fnExactSettingValidWrong : ChangeSpec := { name := "fnExactSettingValid", fn := fun _ => fun
  | [d] => { results := [.lit (.bool false)], args := [d] }
  | _ => none }
def FnExactSettingValidWrongFalsely : Prop := fnExactSettingValidRow.holds Try.pinned (OpenSpec.ofChange fnExactSettingValidWrong)

/-- 'laws.FnExactBitsValid': WHATEVER THE INPUT: true; the input reads as it did. -/
def fnExactBitsValidSpec : ChangeSpec := { name := "fnExactBitsValid", fn := fun _ => fun
  | [d] => { results := [.lit (.bool true)], args := [d] }
  | _ => none }
def fnExactBitsValidRow : OpenClaim := { program := "ytogkpghomfihnaa", sum := "a5911e697942f232367a0e56e6f07f743f1de9f7fc98360195286ace00c0d9f8", func := "loop.example/soughtstreams/laws.FnExactBitsValid", spec := "fnExactBitsValid", apart := false }
def FnExactBitsValidSaid : Prop := fnExactBitsValidRow.holds Try.pinned (OpenSpec.ofChange fnExactBitsValidSpec)

/-- ITS FALSE NEIGHBOUR: 'it returns false'. Refute it at one input. -/
def fnExactBitsValidWrong : ChangeSpec := { name := "fnExactBitsValid", fn := fun _ => fun
  | [d] => { results := [.lit (.bool false)], args := [d] }
  | _ => none }
def FnExactBitsValidWrongFalsely : Prop := fnExactBitsValidRow.holds Try.pinned (OpenSpec.ofChange fnExactBitsValidWrong)

/-- 'laws.FnExactFormatHex': WHATEVER THE INPUT: true; the input reads as it did. -/
def fnExactFormatHexSpec : ChangeSpec := { name := "fnExactFormatHex", fn := fun _ => fun
  | [d] => { results := [.lit (.bool true)], args := [d] }
  | _ => none }
def fnExactFormatHexRow : OpenClaim := { program := "ytogkpghomfihnaa", sum := "a5911e697942f232367a0e56e6f07f743f1de9f7fc98360195286ace00c0d9f8", func := "loop.example/soughtstreams/laws.FnExactFormatHex", spec := "fnExactFormatHex", apart := false }
def FnExactFormatHexSaid : Prop := fnExactFormatHexRow.holds Try.pinned (OpenSpec.ofChange fnExactFormatHexSpec)

/-- ITS FALSE NEIGHBOUR: 'it returns false'. Refute it at one input. -/
def fnExactFormatHexWrong : ChangeSpec := { name := "fnExactFormatHex", fn := fun _ => fun
  | [d] => { results := [.lit (.bool false)], args := [d] }
  | _ => none }
def FnExactFormatHexWrongFalsely : Prop := fnExactFormatHexRow.holds Try.pinned (OpenSpec.ofChange fnExactFormatHexWrong)

/-- 'laws.FnExactClearCode': WHATEVER THE INPUT: true; the input reads as it did. -/
def fnExactClearCodeSpec : ChangeSpec := { name := "fnExactClearCode", fn := fun _ => fun
  | [d] => { results := [.lit (.bool true)], args := [d] }
  | _ => none }
def fnExactClearCodeRow : OpenClaim := { program := "ytogkpghomfihnaa", sum := "a5911e697942f232367a0e56e6f07f743f1de9f7fc98360195286ace00c0d9f8", func := "loop.example/soughtstreams/laws.FnExactClearCode", spec := "fnExactClearCode", apart := false }
def FnExactClearCodeSaid : Prop := fnExactClearCodeRow.holds Try.pinned (OpenSpec.ofChange fnExactClearCodeSpec)

/-- ITS FALSE NEIGHBOUR: 'it returns false'. Refute it at one input. -/
def fnExactClearCodeWrong : ChangeSpec := { name := "fnExactClearCode", fn := fun _ => fun
  | [d] => { results := [.lit (.bool false)], args := [d] }
  | _ => none }
def FnExactClearCodeWrongFalsely : Prop := fnExactClearCodeRow.holds Try.pinned (OpenSpec.ofChange fnExactClearCodeWrong)

/-- 'laws.FnExactEndCode': WHATEVER THE INPUT: true; the input reads as it did. -/
def fnExactEndCodeSpec : ChangeSpec := { name := "fnExactEndCode", fn := fun _ => fun
  | [d] => { results := [.lit (.bool true)], args := [d] }
  | _ => none }
def fnExactEndCodeRow : OpenClaim := { program := "ytogkpghomfihnaa", sum := "a5911e697942f232367a0e56e6f07f743f1de9f7fc98360195286ace00c0d9f8", func := "loop.example/soughtstreams/laws.FnExactEndCode", spec := "fnExactEndCode", apart := false }
def FnExactEndCodeSaid : Prop := fnExactEndCodeRow.holds Try.pinned (OpenSpec.ofChange fnExactEndCodeSpec)

/-- ITS FALSE NEIGHBOUR: 'it returns false'. Refute it at one input. -/
def fnExactEndCodeWrong : ChangeSpec := { name := "fnExactEndCode", fn := fun _ => fun
  | [d] => { results := [.lit (.bool false)], args := [d] }
  | _ => none }
def FnExactEndCodeWrongFalsely : Prop := fnExactEndCodeRow.holds Try.pinned (OpenSpec.ofChange fnExactEndCodeWrong)

/-- 'laws.FnExactLastCode': WHATEVER THE INPUT: true; the input reads as it did. -/
def fnExactLastCodeSpec : ChangeSpec := { name := "fnExactLastCode", fn := fun _ => fun
  | [d] => { results := [.lit (.bool true)], args := [d] }
  | _ => none }
def fnExactLastCodeRow : OpenClaim := { program := "ytogkpghomfihnaa", sum := "a5911e697942f232367a0e56e6f07f743f1de9f7fc98360195286ace00c0d9f8", func := "loop.example/soughtstreams/laws.FnExactLastCode", spec := "fnExactLastCode", apart := false }
def FnExactLastCodeSaid : Prop := fnExactLastCodeRow.holds Try.pinned (OpenSpec.ofChange fnExactLastCodeSpec)

/-- ITS FALSE NEIGHBOUR: 'it returns false'. Refute it at one input. -/
def fnExactLastCodeWrong : ChangeSpec := { name := "fnExactLastCode", fn := fun _ => fun
  | [d] => { results := [.lit (.bool false)], args := [d] }
  | _ => none }
def FnExactLastCodeWrongFalsely : Prop := fnExactLastCodeRow.holds Try.pinned (OpenSpec.ofChange fnExactLastCodeWrong)

/-- 'laws.FnExactDataFits': WHATEVER THE INPUT: true; the input reads as it did. -/
def fnExactDataFitsSpec : ChangeSpec := { name := "fnExactDataFits", fn := fun _ => fun
  | [d1, d2] => { results := [.lit (.bool true)], args := [d1, d2] }
  | _ => none }
def fnExactDataFitsRow : OpenClaim := { program := "ytogkpghomfihnaa", sum := "a5911e697942f232367a0e56e6f07f743f1de9f7fc98360195286ace00c0d9f8", func := "loop.example/soughtstreams/laws.FnExactDataFits", spec := "fnExactDataFits", apart := false }
def FnExactDataFitsSaid : Prop := fnExactDataFitsRow.holds Try.pinned (OpenSpec.ofChange fnExactDataFitsSpec)

/-- ITS FALSE NEIGHBOUR: 'it returns false'. Refute it at one input. -/
def fnExactDataFitsWrong : ChangeSpec := { name := "fnExactDataFits", fn := fun _ => fun
  | [d1, d2] => { results := [.lit (.bool false)], args := [d1, d2] }
  | _ => none }
def FnExactDataFitsWrongFalsely : Prop := fnExactDataFitsRow.holds Try.pinned (OpenSpec.ofChange fnExactDataFitsWrong)

/-- 'laws.FnExactParseHex': WHATEVER THE INPUT: true; the input reads as it did. -/
def fnExactParseHexSpec : ChangeSpec := { name := "fnExactParseHex", fn := fun _ => fun
  | [d] => { results := [.lit (.bool true)], args := [d] }
  | _ => none }
def fnExactParseHexRow : OpenClaim := { program := "ytogkpghomfihnaa", sum := "a5911e697942f232367a0e56e6f07f743f1de9f7fc98360195286ace00c0d9f8", func := "loop.example/soughtstreams/laws.FnExactParseHex", spec := "fnExactParseHex", inPlace := ["internal/bytealg.IndexByteString"], apart := false }
def FnExactParseHexSaid : Prop := fnExactParseHexRow.holds Try.pinned (OpenSpec.ofChange fnExactParseHexSpec)

/-- ITS FALSE NEIGHBOUR: 'it returns false'. Refute it at one input. -/
def fnExactParseHexWrong : ChangeSpec := { name := "fnExactParseHex", fn := fun _ => fun
  | [d] => { results := [.lit (.bool false)], args := [d] }
  | _ => none }
def FnExactParseHexWrongFalsely : Prop := fnExactParseHexRow.holds Try.pinned (OpenSpec.ofChange fnExactParseHexWrong)

/-- 'laws.FnExactCodeBits': WHATEVER THE INPUT: true; the input reads as it did. -/
def fnExactCodeBitsSpec : ChangeSpec := { name := "fnExactCodeBits", fn := fun _ => fun
  | [d1, d2, d3] => { results := [.lit (.bool true)], args := [d1, d2, d3] }
  | _ => none }
def fnExactCodeBitsRow : OpenClaim := { program := "ytogkpghomfihnaa", sum := "a5911e697942f232367a0e56e6f07f743f1de9f7fc98360195286ace00c0d9f8", func := "loop.example/soughtstreams/laws.FnExactCodeBits", spec := "fnExactCodeBits", apart := false }
def FnExactCodeBitsSaid : Prop := fnExactCodeBitsRow.holds Try.pinned (OpenSpec.ofChange fnExactCodeBitsSpec)

/-- ITS FALSE NEIGHBOUR: 'it returns false'. Refute it at one input. -/
def fnExactCodeBitsWrong : ChangeSpec := { name := "fnExactCodeBits", fn := fun _ => fun
  | [d1, d2, d3] => { results := [.lit (.bool false)], args := [d1, d2, d3] }
  | _ => none }
def FnExactCodeBitsWrongFalsely : Prop := fnExactCodeBitsRow.holds Try.pinned (OpenSpec.ofChange fnExactCodeBitsWrong)

/-- 'laws.FnExactBitsNeeded': WHATEVER THE INPUT: true; the input reads as it did. -/
def fnExactBitsNeededSpec : ChangeSpec := { name := "fnExactBitsNeeded", fn := fun _ => fun
  | [d] => { results := [.lit (.bool true)], args := [d] }
  | _ => none }
def fnExactBitsNeededRow : OpenClaim := { program := "ytogkpghomfihnaa", sum := "a5911e697942f232367a0e56e6f07f743f1de9f7fc98360195286ace00c0d9f8", func := "loop.example/soughtstreams/laws.FnExactBitsNeeded", spec := "fnExactBitsNeeded", apart := false }
def FnExactBitsNeededSaid : Prop := fnExactBitsNeededRow.holds Try.pinned (OpenSpec.ofChange fnExactBitsNeededSpec)

/-- ITS FALSE NEIGHBOUR: 'it returns false'. Refute it at one input. -/
def fnExactBitsNeededWrong : ChangeSpec := { name := "fnExactBitsNeeded", fn := fun _ => fun
  | [d] => { results := [.lit (.bool false)], args := [d] }
  | _ => none }
def FnExactBitsNeededWrongFalsely : Prop := fnExactBitsNeededRow.holds Try.pinned (OpenSpec.ofChange fnExactBitsNeededWrong)

/-- 'laws.FnExactBitAt': WHATEVER THE INPUT: true; the input reads as it did. -/
def fnExactBitAtSpec : ChangeSpec := { name := "fnExactBitAt", fn := fun _ => fun
  | [d1, d2, d3] => { results := [.lit (.bool true)], args := [d1, d2, d3] }
  | _ => none }
def fnExactBitAtRow : OpenClaim := { program := "ytogkpghomfihnaa", sum := "a5911e697942f232367a0e56e6f07f743f1de9f7fc98360195286ace00c0d9f8", func := "loop.example/soughtstreams/laws.FnExactBitAt", spec := "fnExactBitAt", apart := false }
def FnExactBitAtSaid : Prop := fnExactBitAtRow.holds Try.pinned (OpenSpec.ofChange fnExactBitAtSpec)

/-- ITS FALSE NEIGHBOUR: 'it returns false'. Refute it at one input. -/
def fnExactBitAtWrong : ChangeSpec := { name := "fnExactBitAt", fn := fun _ => fun
  | [d1, d2, d3] => { results := [.lit (.bool false)], args := [d1, d2, d3] }
  | _ => none }
def FnExactBitAtWrongFalsely : Prop := fnExactBitAtRow.holds Try.pinned (OpenSpec.ofChange fnExactBitAtWrong)

/-- 'laws.FnExactUnpackBits': WHATEVER THE INPUT: true; the input reads as it did. -/
def fnExactUnpackBitsSpec : ChangeSpec := { name := "fnExactUnpackBits", fn := fun _ => fun
  | [d1, d2] => { results := [.lit (.bool true)], args := [d1, d2] }
  | _ => none }
def fnExactUnpackBitsRow : OpenClaim := { program := "ytogkpghomfihnaa", sum := "a5911e697942f232367a0e56e6f07f743f1de9f7fc98360195286ace00c0d9f8", func := "loop.example/soughtstreams/laws.FnExactUnpackBits", spec := "fnExactUnpackBits", apart := false }
def FnExactUnpackBitsSaid : Prop := fnExactUnpackBitsRow.holds Try.pinned (OpenSpec.ofChange fnExactUnpackBitsSpec)

/-- ITS FALSE NEIGHBOUR: 'it returns false'. Refute it at one input. -/
def fnExactUnpackBitsWrong : ChangeSpec := { name := "fnExactUnpackBits", fn := fun _ => fun
  | [d1, d2] => { results := [.lit (.bool false)], args := [d1, d2] }
  | _ => none }
def FnExactUnpackBitsWrongFalsely : Prop := fnExactUnpackBitsRow.holds Try.pinned (OpenSpec.ofChange fnExactUnpackBitsWrong)

/-- 'laws.FnExactBitsCode': WHATEVER THE INPUT: true; the input reads as it did. -/
def fnExactBitsCodeSpec : ChangeSpec := { name := "fnExactBitsCode", fn := fun _ => fun
  | [d1, d2] => { results := [.lit (.bool true)], args := [d1, d2] }
  | _ => none }
def fnExactBitsCodeRow : OpenClaim := { program := "ytogkpghomfihnaa", sum := "a5911e697942f232367a0e56e6f07f743f1de9f7fc98360195286ace00c0d9f8", func := "loop.example/soughtstreams/laws.FnExactBitsCode", spec := "fnExactBitsCode", apart := false }
def FnExactBitsCodeSaid : Prop := fnExactBitsCodeRow.holds Try.pinned (OpenSpec.ofChange fnExactBitsCodeSpec)

/-- ITS FALSE NEIGHBOUR: 'it returns false'. Refute it at one input. -/
def fnExactBitsCodeWrong : ChangeSpec := { name := "fnExactBitsCode", fn := fun _ => fun
  | [d1, d2] => { results := [.lit (.bool false)], args := [d1, d2] }
  | _ => none }
def FnExactBitsCodeWrongFalsely : Prop := fnExactBitsCodeRow.holds Try.pinned (OpenSpec.ofChange fnExactBitsCodeWrong)

/-- 'laws.FnExactSpanBits': WHATEVER THE INPUT: true; the input reads as it did. -/
def fnExactSpanBitsSpec : ChangeSpec := { name := "fnExactSpanBits", fn := fun _ => fun
  | [d1, d2, d3, d4] => { results := [.lit (.bool true)], args := [d1, d2, d3, d4] }
  | _ => none }
def fnExactSpanBitsRow : OpenClaim := { program := "ytogkpghomfihnaa", sum := "a5911e697942f232367a0e56e6f07f743f1de9f7fc98360195286ace00c0d9f8", func := "loop.example/soughtstreams/laws.FnExactSpanBits", spec := "fnExactSpanBits", apart := false }
def FnExactSpanBitsSaid : Prop := fnExactSpanBitsRow.holds Try.pinned (OpenSpec.ofChange fnExactSpanBitsSpec)

/-- ITS FALSE NEIGHBOUR: 'it returns false'. Refute it at one input. -/
def fnExactSpanBitsWrong : ChangeSpec := { name := "fnExactSpanBits", fn := fun _ => fun
  | [d1, d2, d3, d4] => { results := [.lit (.bool false)], args := [d1, d2, d3, d4] }
  | _ => none }
def FnExactSpanBitsWrongFalsely : Prop := fnExactSpanBitsRow.holds Try.pinned (OpenSpec.ofChange fnExactSpanBitsWrong)

/-- 'laws.FnExactTurnBytes': WHATEVER THE INPUT: true; the input reads as it did. -/
def fnExactTurnBytesSpec : ChangeSpec := { name := "fnExactTurnBytes", fn := fun _ => fun
  | [d] => { results := [.lit (.bool true)], args := [d] }
  | _ => none }
def fnExactTurnBytesRow : OpenClaim := { program := "ytogkpghomfihnaa", sum := "a5911e697942f232367a0e56e6f07f743f1de9f7fc98360195286ace00c0d9f8", func := "loop.example/soughtstreams/laws.FnExactTurnBytes", spec := "fnExactTurnBytes", apart := false }
def FnExactTurnBytesSaid : Prop := fnExactTurnBytesRow.holds Try.pinned (OpenSpec.ofChange fnExactTurnBytesSpec)

/-- ITS FALSE NEIGHBOUR: 'it returns false'. Refute it at one input. -/
def fnExactTurnBytesWrong : ChangeSpec := { name := "fnExactTurnBytes", fn := fun _ => fun
  | [d] => { results := [.lit (.bool false)], args := [d] }
  | _ => none }
def FnExactTurnBytesWrongFalsely : Prop := fnExactTurnBytesRow.holds Try.pinned (OpenSpec.ofChange fnExactTurnBytesWrong)

/-- 'laws.FnExactPackBits': WHATEVER THE INPUT: true; the input reads as it did. -/
def fnExactPackBitsSpec : ChangeSpec := { name := "fnExactPackBits", fn := fun _ => fun
  | [d1, d2] => { results := [.lit (.bool true)], args := [d1, d2] }
  | _ => none }
def fnExactPackBitsRow : OpenClaim := { program := "ytogkpghomfihnaa", sum := "a5911e697942f232367a0e56e6f07f743f1de9f7fc98360195286ace00c0d9f8", func := "loop.example/soughtstreams/laws.FnExactPackBits", spec := "fnExactPackBits", apart := false }
def FnExactPackBitsSaid : Prop := fnExactPackBitsRow.holds Try.pinned (OpenSpec.ofChange fnExactPackBitsSpec)

/-- ITS FALSE NEIGHBOUR: 'it returns false'. Refute it at one input. -/
def fnExactPackBitsWrong : ChangeSpec := { name := "fnExactPackBits", fn := fun _ => fun
  | [d1, d2] => { results := [.lit (.bool false)], args := [d1, d2] }
  | _ => none }
def FnExactPackBitsWrongFalsely : Prop := fnExactPackBitsRow.holds Try.pinned (OpenSpec.ofChange fnExactPackBitsWrong)

/-- 'laws.FnExactReverseBits': WHATEVER THE INPUT: true; the input reads as it did. -/
def fnExactReverseBitsSpec : ChangeSpec := { name := "fnExactReverseBits", fn := fun _ => fun
  | [d1, d2] => { results := [.lit (.bool true)], args := [d1, d2] }
  | _ => none }
def fnExactReverseBitsRow : OpenClaim := { program := "ytogkpghomfihnaa", sum := "a5911e697942f232367a0e56e6f07f743f1de9f7fc98360195286ace00c0d9f8", func := "loop.example/soughtstreams/laws.FnExactReverseBits", spec := "fnExactReverseBits", apart := false }
def FnExactReverseBitsSaid : Prop := fnExactReverseBitsRow.holds Try.pinned (OpenSpec.ofChange fnExactReverseBitsSpec)

/-- ITS FALSE NEIGHBOUR: 'it returns false'. Refute it at one input. -/
def fnExactReverseBitsWrong : ChangeSpec := { name := "fnExactReverseBits", fn := fun _ => fun
  | [d1, d2] => { results := [.lit (.bool false)], args := [d1, d2] }
  | _ => none }
def FnExactReverseBitsWrongFalsely : Prop := fnExactReverseBitsRow.holds Try.pinned (OpenSpec.ofChange fnExactReverseBitsWrong)

/-- 'laws.FnExactPadBits': WHATEVER THE INPUT: true; the input reads as it did. -/
def fnExactPadBitsSpec : ChangeSpec := { name := "fnExactPadBits", fn := fun _ => fun
  | [d] => { results := [.lit (.bool true)], args := [d] }
  | _ => none }
def fnExactPadBitsRow : OpenClaim := { program := "ytogkpghomfihnaa", sum := "a5911e697942f232367a0e56e6f07f743f1de9f7fc98360195286ace00c0d9f8", func := "loop.example/soughtstreams/laws.FnExactPadBits", spec := "fnExactPadBits", inPlace := ["internal/abi.NoEscape", "internal/bytealg.MakeNoZero"], apart := false }
def FnExactPadBitsSaid : Prop := fnExactPadBitsRow.holds Try.pinned (OpenSpec.ofChange fnExactPadBitsSpec)

/-- ITS FALSE NEIGHBOUR: 'it returns false'. Refute it at one input. -/
def fnExactPadBitsWrong : ChangeSpec := { name := "fnExactPadBits", fn := fun _ => fun
  | [d] => { results := [.lit (.bool false)], args := [d] }
  | _ => none }
def FnExactPadBitsWrongFalsely : Prop := fnExactPadBitsRow.holds Try.pinned (OpenSpec.ofChange fnExactPadBitsWrong)

/- THE SECOND FORM. 'bulk': how many values and letters a reading holds, each counted each time it is reached (what is shared counts as often as it is met; a slice's spare places count too). A statement '..UptoSaid' is the law's where the arguments, and the package variables that the reading takes, are together of bulk at most 1048576: NARROWER than '..Said'. Prove '..Said' where nothing that the law and all that it calls make is longer than what came in: it says more and counts as full. Else prove '..UptoSaid'. A law counts once. -/
mutual
def uptoBulk {H : Type} : DataW H → Nat
  | .lit (.string bytes) => bytes.length + 1
  | .lit _ => 1
  | .nil => 1
  | .ptr d => uptoBulk d + 1
  | .slice elems spare => uptoBulkAll elems + uptoBulkAll spare + 1
  | .agg parts => uptoBulkAll parts + 1
  | .iface _ d => uptoBulk d + 1
  | .map entries => uptoBulkEntries entries + 1
  | .held _ => 1
def uptoBulkAll {H : Type} : List (DataW H) → Nat
  | [] => 0
  | d :: r => uptoBulk d + uptoBulkAll r
def uptoBulkEntries {H : Type} : List (Lit × DataW H) → Nat
  | [] => 0
  | x :: r => uptoBulkEntry x + uptoBulkEntries r
def uptoBulkEntry {H : Type} : Lit × DataW H → Nat
  | (.string bytes, d) => bytes.length + uptoBulk d + 1
  | (_, d) => uptoBulk d + 1
 end
def uptoSmall : (H : Type) → List (DataW H) → Bool := fun _ ds => decide (uptoBulkAll ds ≤ 1048576)
def OpenSpec.upto (s : _root_.Go.ChangeSpec) : _root_.Go.OpenSpec := { _root_.Go.OpenSpec.ofChange s with cond := some uptoSmall }

/-- 'laws.FnExactConstants', WHERE WHAT IT READS IS OF BULK AT MOST 1048576: true; the input reads as it did. -/
def fnExactConstantsUptoRow : OpenClaim := { program := "ytogkpghomfihnaa", sum := "a5911e697942f232367a0e56e6f07f743f1de9f7fc98360195286ace00c0d9f8", func := "loop.example/soughtstreams/laws.FnExactConstants", spec := "fnExactConstants", apart := false, narrowed := true }
def FnExactConstantsUptoSaid : Prop := fnExactConstantsUptoRow.holds Try.pinned (OpenSpec.upto fnExactConstantsSpec)

/-- 'laws.FnExactSettingValid', WHERE WHAT IT READS IS OF BULK AT MOST 1048576: true; the input reads as it did. -/
def fnExactSettingValidUptoRow : OpenClaim := { program := "ytogkpghomfihnaa", sum := "a5911e697942f232367a0e56e6f07f743f1de9f7fc98360195286ace00c0d9f8", func := "loop.example/soughtstreams/laws.FnExactSettingValid", spec := "fnExactSettingValid", apart := false, narrowed := true }
def FnExactSettingValidUptoSaid : Prop := fnExactSettingValidUptoRow.holds Try.pinned (OpenSpec.upto fnExactSettingValidSpec)

/-- 'laws.FnExactBitsValid', WHERE WHAT IT READS IS OF BULK AT MOST 1048576: true; the input reads as it did. -/
def fnExactBitsValidUptoRow : OpenClaim := { program := "ytogkpghomfihnaa", sum := "a5911e697942f232367a0e56e6f07f743f1de9f7fc98360195286ace00c0d9f8", func := "loop.example/soughtstreams/laws.FnExactBitsValid", spec := "fnExactBitsValid", apart := false, narrowed := true }
def FnExactBitsValidUptoSaid : Prop := fnExactBitsValidUptoRow.holds Try.pinned (OpenSpec.upto fnExactBitsValidSpec)

/-- 'laws.FnExactFormatHex', WHERE WHAT IT READS IS OF BULK AT MOST 1048576: true; the input reads as it did. -/
def fnExactFormatHexUptoRow : OpenClaim := { program := "ytogkpghomfihnaa", sum := "a5911e697942f232367a0e56e6f07f743f1de9f7fc98360195286ace00c0d9f8", func := "loop.example/soughtstreams/laws.FnExactFormatHex", spec := "fnExactFormatHex", apart := false, narrowed := true }
def FnExactFormatHexUptoSaid : Prop := fnExactFormatHexUptoRow.holds Try.pinned (OpenSpec.upto fnExactFormatHexSpec)

/-- 'laws.FnExactClearCode', WHERE WHAT IT READS IS OF BULK AT MOST 1048576: true; the input reads as it did. -/
def fnExactClearCodeUptoRow : OpenClaim := { program := "ytogkpghomfihnaa", sum := "a5911e697942f232367a0e56e6f07f743f1de9f7fc98360195286ace00c0d9f8", func := "loop.example/soughtstreams/laws.FnExactClearCode", spec := "fnExactClearCode", apart := false, narrowed := true }
def FnExactClearCodeUptoSaid : Prop := fnExactClearCodeUptoRow.holds Try.pinned (OpenSpec.upto fnExactClearCodeSpec)

/-- 'laws.FnExactEndCode', WHERE WHAT IT READS IS OF BULK AT MOST 1048576: true; the input reads as it did. -/
def fnExactEndCodeUptoRow : OpenClaim := { program := "ytogkpghomfihnaa", sum := "a5911e697942f232367a0e56e6f07f743f1de9f7fc98360195286ace00c0d9f8", func := "loop.example/soughtstreams/laws.FnExactEndCode", spec := "fnExactEndCode", apart := false, narrowed := true }
def FnExactEndCodeUptoSaid : Prop := fnExactEndCodeUptoRow.holds Try.pinned (OpenSpec.upto fnExactEndCodeSpec)

/-- 'laws.FnExactLastCode', WHERE WHAT IT READS IS OF BULK AT MOST 1048576: true; the input reads as it did. -/
def fnExactLastCodeUptoRow : OpenClaim := { program := "ytogkpghomfihnaa", sum := "a5911e697942f232367a0e56e6f07f743f1de9f7fc98360195286ace00c0d9f8", func := "loop.example/soughtstreams/laws.FnExactLastCode", spec := "fnExactLastCode", apart := false, narrowed := true }
def FnExactLastCodeUptoSaid : Prop := fnExactLastCodeUptoRow.holds Try.pinned (OpenSpec.upto fnExactLastCodeSpec)

/-- 'laws.FnExactDataFits', WHERE WHAT IT READS IS OF BULK AT MOST 1048576: true; the input reads as it did. -/
def fnExactDataFitsUptoRow : OpenClaim := { program := "ytogkpghomfihnaa", sum := "a5911e697942f232367a0e56e6f07f743f1de9f7fc98360195286ace00c0d9f8", func := "loop.example/soughtstreams/laws.FnExactDataFits", spec := "fnExactDataFits", apart := false, narrowed := true }
def FnExactDataFitsUptoSaid : Prop := fnExactDataFitsUptoRow.holds Try.pinned (OpenSpec.upto fnExactDataFitsSpec)

/-- 'laws.FnExactParseHex', WHERE WHAT IT READS IS OF BULK AT MOST 1048576: true; the input reads as it did. -/
def fnExactParseHexUptoRow : OpenClaim := { program := "ytogkpghomfihnaa", sum := "a5911e697942f232367a0e56e6f07f743f1de9f7fc98360195286ace00c0d9f8", func := "loop.example/soughtstreams/laws.FnExactParseHex", spec := "fnExactParseHex", inPlace := ["internal/bytealg.IndexByteString"], apart := false, narrowed := true }
def FnExactParseHexUptoSaid : Prop := fnExactParseHexUptoRow.holds Try.pinned (OpenSpec.upto fnExactParseHexSpec)

/-- 'laws.FnExactCodeBits', WHERE WHAT IT READS IS OF BULK AT MOST 1048576: true; the input reads as it did. -/
def fnExactCodeBitsUptoRow : OpenClaim := { program := "ytogkpghomfihnaa", sum := "a5911e697942f232367a0e56e6f07f743f1de9f7fc98360195286ace00c0d9f8", func := "loop.example/soughtstreams/laws.FnExactCodeBits", spec := "fnExactCodeBits", apart := false, narrowed := true }
def FnExactCodeBitsUptoSaid : Prop := fnExactCodeBitsUptoRow.holds Try.pinned (OpenSpec.upto fnExactCodeBitsSpec)

/-- 'laws.FnExactBitsNeeded', WHERE WHAT IT READS IS OF BULK AT MOST 1048576: true; the input reads as it did. -/
def fnExactBitsNeededUptoRow : OpenClaim := { program := "ytogkpghomfihnaa", sum := "a5911e697942f232367a0e56e6f07f743f1de9f7fc98360195286ace00c0d9f8", func := "loop.example/soughtstreams/laws.FnExactBitsNeeded", spec := "fnExactBitsNeeded", apart := false, narrowed := true }
def FnExactBitsNeededUptoSaid : Prop := fnExactBitsNeededUptoRow.holds Try.pinned (OpenSpec.upto fnExactBitsNeededSpec)

/-- 'laws.FnExactBitAt', WHERE WHAT IT READS IS OF BULK AT MOST 1048576: true; the input reads as it did. -/
def fnExactBitAtUptoRow : OpenClaim := { program := "ytogkpghomfihnaa", sum := "a5911e697942f232367a0e56e6f07f743f1de9f7fc98360195286ace00c0d9f8", func := "loop.example/soughtstreams/laws.FnExactBitAt", spec := "fnExactBitAt", apart := false, narrowed := true }
def FnExactBitAtUptoSaid : Prop := fnExactBitAtUptoRow.holds Try.pinned (OpenSpec.upto fnExactBitAtSpec)

/-- 'laws.FnExactUnpackBits', WHERE WHAT IT READS IS OF BULK AT MOST 1048576: true; the input reads as it did. -/
def fnExactUnpackBitsUptoRow : OpenClaim := { program := "ytogkpghomfihnaa", sum := "a5911e697942f232367a0e56e6f07f743f1de9f7fc98360195286ace00c0d9f8", func := "loop.example/soughtstreams/laws.FnExactUnpackBits", spec := "fnExactUnpackBits", apart := false, narrowed := true }
def FnExactUnpackBitsUptoSaid : Prop := fnExactUnpackBitsUptoRow.holds Try.pinned (OpenSpec.upto fnExactUnpackBitsSpec)

/-- 'laws.FnExactBitsCode', WHERE WHAT IT READS IS OF BULK AT MOST 1048576: true; the input reads as it did. -/
def fnExactBitsCodeUptoRow : OpenClaim := { program := "ytogkpghomfihnaa", sum := "a5911e697942f232367a0e56e6f07f743f1de9f7fc98360195286ace00c0d9f8", func := "loop.example/soughtstreams/laws.FnExactBitsCode", spec := "fnExactBitsCode", apart := false, narrowed := true }
def FnExactBitsCodeUptoSaid : Prop := fnExactBitsCodeUptoRow.holds Try.pinned (OpenSpec.upto fnExactBitsCodeSpec)

/-- 'laws.FnExactSpanBits', WHERE WHAT IT READS IS OF BULK AT MOST 1048576: true; the input reads as it did. -/
def fnExactSpanBitsUptoRow : OpenClaim := { program := "ytogkpghomfihnaa", sum := "a5911e697942f232367a0e56e6f07f743f1de9f7fc98360195286ace00c0d9f8", func := "loop.example/soughtstreams/laws.FnExactSpanBits", spec := "fnExactSpanBits", apart := false, narrowed := true }
def FnExactSpanBitsUptoSaid : Prop := fnExactSpanBitsUptoRow.holds Try.pinned (OpenSpec.upto fnExactSpanBitsSpec)

/-- 'laws.FnExactTurnBytes', WHERE WHAT IT READS IS OF BULK AT MOST 1048576: true; the input reads as it did. -/
def fnExactTurnBytesUptoRow : OpenClaim := { program := "ytogkpghomfihnaa", sum := "a5911e697942f232367a0e56e6f07f743f1de9f7fc98360195286ace00c0d9f8", func := "loop.example/soughtstreams/laws.FnExactTurnBytes", spec := "fnExactTurnBytes", apart := false, narrowed := true }
def FnExactTurnBytesUptoSaid : Prop := fnExactTurnBytesUptoRow.holds Try.pinned (OpenSpec.upto fnExactTurnBytesSpec)

/-- 'laws.FnExactPackBits', WHERE WHAT IT READS IS OF BULK AT MOST 1048576: true; the input reads as it did. -/
def fnExactPackBitsUptoRow : OpenClaim := { program := "ytogkpghomfihnaa", sum := "a5911e697942f232367a0e56e6f07f743f1de9f7fc98360195286ace00c0d9f8", func := "loop.example/soughtstreams/laws.FnExactPackBits", spec := "fnExactPackBits", apart := false, narrowed := true }
def FnExactPackBitsUptoSaid : Prop := fnExactPackBitsUptoRow.holds Try.pinned (OpenSpec.upto fnExactPackBitsSpec)

/-- 'laws.FnExactReverseBits', WHERE WHAT IT READS IS OF BULK AT MOST 1048576: true; the input reads as it did. -/
def fnExactReverseBitsUptoRow : OpenClaim := { program := "ytogkpghomfihnaa", sum := "a5911e697942f232367a0e56e6f07f743f1de9f7fc98360195286ace00c0d9f8", func := "loop.example/soughtstreams/laws.FnExactReverseBits", spec := "fnExactReverseBits", apart := false, narrowed := true }
def FnExactReverseBitsUptoSaid : Prop := fnExactReverseBitsUptoRow.holds Try.pinned (OpenSpec.upto fnExactReverseBitsSpec)

/-- 'laws.FnExactPadBits', WHERE WHAT IT READS IS OF BULK AT MOST 1048576: true; the input reads as it did. -/
def fnExactPadBitsUptoRow : OpenClaim := { program := "ytogkpghomfihnaa", sum := "a5911e697942f232367a0e56e6f07f743f1de9f7fc98360195286ace00c0d9f8", func := "loop.example/soughtstreams/laws.FnExactPadBits", spec := "fnExactPadBits", inPlace := ["internal/abi.NoEscape", "internal/bytealg.MakeNoZero"], apart := false, narrowed := true }
def FnExactPadBitsUptoSaid : Prop := fnExactPadBitsUptoRow.holds Try.pinned (OpenSpec.upto fnExactPadBitsSpec)

end Rows
end Go.Proofs.Ytogkpghomfihnaa
