/-
  DERIVED. GIVEN WITH THE SEED: THE CARDS: each row of YthdmnpjdpfeleaaDoorRows.lean that lists a variable, with what it lists TIED to the program's text (the seventh form; the later family's looks); each row that meets fmt, with fmt's text TOLD by the authors' own Lean function (tested against real Go, not proved from fmt's source: count such statements apart). THE CARD IS WHAT COUNTS. Prove the row's statement (the work); the ties are given (YthdmnpjdpfeleaaDoorTie.lean); close each card by the builder's one call (the guide's Derived/Test/ToyasCard.lean, 'card_holds'). Laid BY PROGRAM, IN A SANDBOX (cutbox-door.mjs). By AI agents, Wed Nov 11 2026. No macro, syntax, notation, axiom, sorry.
-/
import Derived.Test.YthdmnpjdpfeleaaDoorRows
import GoSem.ClaimSeven
namespace Go.Proofs.YthdmnpjdpfeleaaDoor
namespace Rows

/-- THE TIED CARD OF 'laws.FnExactParseSetting'. -/
def fnExactParseSettingCard : Claim7 := { stood := { row := fnExactParseSettingRow, standIns := [], harness := (true, "202e9095a116ab2e1284f79963601fa428acb734c6b568f885a6d946283d60bd"), looks := true }, kinds := [], alts := [], laidByText := true, laidKinds := [.data, .data, .data, .data, .sentinel, .sentinel, .pinned], laidTests := true, laidLooks := .later }
def FnExactParseSettingCardSaid : Prop := Claim7.holds Tryd.pinned (.plain (OpenSpec.ofChange fnExactParseSettingSpec)) fnExactParseSettingCard

/-- THE TIED CARD OF 'laws.FnExactFormatSetting'. -/
def fnExactFormatSettingCard : Claim7 := { stood := { row := fnExactFormatSettingRow, standIns := [], harness := (true, "202e9095a116ab2e1284f79963601fa428acb734c6b568f885a6d946283d60bd"), looks := true }, kinds := [], alts := [], laidByText := true, laidKinds := [.data, .data, .data], laidTests := true, laidLooks := .later }
def FnExactFormatSettingCardSaid : Prop := Claim7.holds Tryd.pinned (.plain (OpenSpec.ofChange fnExactFormatSettingSpec)) fnExactFormatSettingCard

/-- THE TIED CARD OF 'laws.FnSettingText'. -/
def fnSettingTextCard : Claim7 := { stood := { row := fnSettingTextRow, standIns := [], harness := (true, "202e9095a116ab2e1284f79963601fa428acb734c6b568f885a6d946283d60bd"), looks := true }, kinds := [], alts := [], laidByText := true, laidKinds := [.data, .data, .data, .data, .sentinel, .sentinel, .pinned], laidTests := true, laidLooks := .later }
def FnSettingTextCardSaid : Prop := Claim7.holds Tryd.pinned (.plain (OpenSpec.ofChange fnSettingTextSpec)) fnSettingTextCard

/-- THE SECOND FORM's CARD OF 'laws.FnExactParseSetting'. -/
def fnExactParseSettingUptoCard : Claim7 := { stood := { row := fnExactParseSettingUptoRow, standIns := [], harness := (true, "202e9095a116ab2e1284f79963601fa428acb734c6b568f885a6d946283d60bd"), looks := true }, kinds := [], alts := [], laidByText := true, laidKinds := [.data, .data, .data, .data, .sentinel, .sentinel, .pinned], laidTests := true, laidLooks := .later }
def FnExactParseSettingUptoCardSaid : Prop := Claim7.holds Tryd.pinned (.plain (OpenSpec.upto fnExactParseSettingSpec)) fnExactParseSettingUptoCard

/-- THE SECOND FORM's CARD OF 'laws.FnExactFormatSetting'. -/
def fnExactFormatSettingUptoCard : Claim7 := { stood := { row := fnExactFormatSettingUptoRow, standIns := [], harness := (true, "202e9095a116ab2e1284f79963601fa428acb734c6b568f885a6d946283d60bd"), looks := true }, kinds := [], alts := [], laidByText := true, laidKinds := [.data, .data, .data], laidTests := true, laidLooks := .later }
def FnExactFormatSettingUptoCardSaid : Prop := Claim7.holds Tryd.pinned (.plain (OpenSpec.upto fnExactFormatSettingSpec)) fnExactFormatSettingUptoCard

/-- THE SECOND FORM's CARD OF 'laws.FnSettingText'. -/
def fnSettingTextUptoCard : Claim7 := { stood := { row := fnSettingTextUptoRow, standIns := [], harness := (true, "202e9095a116ab2e1284f79963601fa428acb734c6b568f885a6d946283d60bd"), looks := true }, kinds := [], alts := [], laidByText := true, laidKinds := [.data, .data, .data, .data, .sentinel, .sentinel, .pinned], laidTests := true, laidLooks := .later }
def FnSettingTextUptoCardSaid : Prop := Claim7.holds Tryd.pinned (.plain (OpenSpec.upto fnSettingTextSpec)) fnSettingTextUptoCard
end Rows
end Go.Proofs.YthdmnpjdpfeleaaDoor
