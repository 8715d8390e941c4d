/-
  DERIVED. GIVEN WITH THE SEED: THE CARDS: each row of YthjpkfcejdddkaaDoorRows.lean that lists a variable, with what it lists TIED to the program's text (the seventh form; the later family's looks); each row that meets fmt, with fmt's text TOLD by the authors' own Lean function (tested against real Go, not proved from fmt's source: count such statements apart). THE CARD IS WHAT COUNTS. Prove the row's statement (the work); the ties are given (YthjpkfcejdddkaaDoorTie.lean); close each card by the builder's one call (the guide's Derived/Test/ToyasCard.lean, 'card_holds'). Laid BY PROGRAM, IN A SANDBOX (cutbox-door.mjs). By AI agents, Wed Nov 11 2026. No macro, syntax, notation, axiom, sorry.
-/
import Derived.Test.YthjpkfcejdddkaaDoorRows
import GoSem.ClaimSeven
namespace Go.Proofs.YthjpkfcejdddkaaDoor
namespace Rows

/-- THE TIED CARD OF 'laws.FnChainCut'. -/
def fnChainCutCard : Claim7 := { stood := { row := fnChainCutRow, standIns := [], harness := (true, "10d4af822d87a0337c3fb75226141acb31dee4309409fa9b8adf316b7e68b1d4"), looks := false }, kinds := [], alts := [], laidByText := true, laidKinds := [.data, .data, .data, .data, .pinned], laidTests := true, laidLooks := .later }
def FnChainCutCardSaid : Prop := Claim7.holds Tryd.pinned (.plain (OpenSpec.ofChange fnChainCutSpec)) fnChainCutCard

/-- THE TIED CARD OF 'laws.FnExactChainRead'. -/
def fnExactChainReadCard : Claim7 := { stood := { row := fnExactChainReadRow, standIns := [], harness := (true, "10d4af822d87a0337c3fb75226141acb31dee4309409fa9b8adf316b7e68b1d4"), looks := false }, kinds := [], alts := [], laidByText := true, laidKinds := [.data, .data, .data, .data, .pinned], laidTests := true, laidLooks := .later }
def FnExactChainReadCardSaid : Prop := Claim7.holds Tryd.pinned (.plain (OpenSpec.ofChange fnExactChainReadSpec)) fnExactChainReadCard

/-- THE TIED CARD OF 'laws.FnChainStrict'. -/
def fnChainStrictCard : Claim7 := { stood := { row := fnChainStrictRow, standIns := [], harness := (true, "10d4af822d87a0337c3fb75226141acb31dee4309409fa9b8adf316b7e68b1d4"), looks := false }, kinds := [], alts := [], laidByText := true, laidKinds := [.data, .data, .data, .data, .pinned], laidTests := true, laidLooks := .later }
def FnChainStrictCardSaid : Prop := Claim7.holds Tryd.pinned (.plain (OpenSpec.ofChange fnChainStrictSpec)) fnChainStrictCard

/-- THE TIED CARD OF 'laws.FnExactChainText'. -/
def fnExactChainTextCard : Claim7 := { stood := { row := fnExactChainTextRow, standIns := [], harness := (true, "10d4af822d87a0337c3fb75226141acb31dee4309409fa9b8adf316b7e68b1d4"), looks := false }, kinds := [], alts := [], laidByText := true, laidKinds := [.data, .data, .data], laidTests := true, laidLooks := .later }
def FnExactChainTextCardSaid : Prop := Claim7.holds Tryd.pinned (.plain (OpenSpec.ofChange fnExactChainTextSpec)) fnExactChainTextCard

/-- THE TIED CARD OF 'laws.FnChainOne'. -/
def fnChainOneCard : Claim7 := { stood := { row := fnChainOneRow, standIns := [], harness := (true, "10d4af822d87a0337c3fb75226141acb31dee4309409fa9b8adf316b7e68b1d4"), looks := false }, kinds := [], alts := [], laidByText := true, laidKinds := [.data, .data, .data], laidTests := true, laidLooks := .later }
def FnChainOneCardSaid : Prop := Claim7.holds Tryd.pinned (.plain (OpenSpec.ofChange fnChainOneSpec)) fnChainOneCard

/-- THE TIED CARD OF 'laws.FnChainBack'. -/
def fnChainBackCard : Claim7 := { stood := { row := fnChainBackRow, standIns := [], harness := (true, "10d4af822d87a0337c3fb75226141acb31dee4309409fa9b8adf316b7e68b1d4"), looks := false }, kinds := [], alts := [], laidByText := true, laidKinds := [.data, .data, .data, .data, .pinned], laidTests := true, laidLooks := .later }
def FnChainBackCardSaid : Prop := Claim7.holds Tryd.pinned (.plain (OpenSpec.ofChange fnChainBackSpec)) fnChainBackCard

/-- THE SECOND FORM's CARD OF 'laws.FnChainCut'. -/
def fnChainCutUptoCard : Claim7 := { stood := { row := fnChainCutUptoRow, standIns := [], harness := (true, "10d4af822d87a0337c3fb75226141acb31dee4309409fa9b8adf316b7e68b1d4"), looks := false }, kinds := [], alts := [], laidByText := true, laidKinds := [.data, .data, .data, .data, .pinned], laidTests := true, laidLooks := .later }
def FnChainCutUptoCardSaid : Prop := Claim7.holds Tryd.pinned (.plain (OpenSpec.upto fnChainCutSpec)) fnChainCutUptoCard

/-- THE SECOND FORM's CARD OF 'laws.FnExactChainRead'. -/
def fnExactChainReadUptoCard : Claim7 := { stood := { row := fnExactChainReadUptoRow, standIns := [], harness := (true, "10d4af822d87a0337c3fb75226141acb31dee4309409fa9b8adf316b7e68b1d4"), looks := false }, kinds := [], alts := [], laidByText := true, laidKinds := [.data, .data, .data, .data, .pinned], laidTests := true, laidLooks := .later }
def FnExactChainReadUptoCardSaid : Prop := Claim7.holds Tryd.pinned (.plain (OpenSpec.upto fnExactChainReadSpec)) fnExactChainReadUptoCard

/-- THE SECOND FORM's CARD OF 'laws.FnChainStrict'. -/
def fnChainStrictUptoCard : Claim7 := { stood := { row := fnChainStrictUptoRow, standIns := [], harness := (true, "10d4af822d87a0337c3fb75226141acb31dee4309409fa9b8adf316b7e68b1d4"), looks := false }, kinds := [], alts := [], laidByText := true, laidKinds := [.data, .data, .data, .data, .pinned], laidTests := true, laidLooks := .later }
def FnChainStrictUptoCardSaid : Prop := Claim7.holds Tryd.pinned (.plain (OpenSpec.upto fnChainStrictSpec)) fnChainStrictUptoCard

/-- THE SECOND FORM's CARD OF 'laws.FnExactChainText'. -/
def fnExactChainTextUptoCard : Claim7 := { stood := { row := fnExactChainTextUptoRow, standIns := [], harness := (true, "10d4af822d87a0337c3fb75226141acb31dee4309409fa9b8adf316b7e68b1d4"), looks := false }, kinds := [], alts := [], laidByText := true, laidKinds := [.data, .data, .data], laidTests := true, laidLooks := .later }
def FnExactChainTextUptoCardSaid : Prop := Claim7.holds Tryd.pinned (.plain (OpenSpec.upto fnExactChainTextSpec)) fnExactChainTextUptoCard

/-- THE SECOND FORM's CARD OF 'laws.FnChainOne'. -/
def fnChainOneUptoCard : Claim7 := { stood := { row := fnChainOneUptoRow, standIns := [], harness := (true, "10d4af822d87a0337c3fb75226141acb31dee4309409fa9b8adf316b7e68b1d4"), looks := false }, kinds := [], alts := [], laidByText := true, laidKinds := [.data, .data, .data], laidTests := true, laidLooks := .later }
def FnChainOneUptoCardSaid : Prop := Claim7.holds Tryd.pinned (.plain (OpenSpec.upto fnChainOneSpec)) fnChainOneUptoCard

/-- THE SECOND FORM's CARD OF 'laws.FnChainBack'. -/
def fnChainBackUptoCard : Claim7 := { stood := { row := fnChainBackUptoRow, standIns := [], harness := (true, "10d4af822d87a0337c3fb75226141acb31dee4309409fa9b8adf316b7e68b1d4"), looks := false }, kinds := [], alts := [], laidByText := true, laidKinds := [.data, .data, .data, .data, .pinned], laidTests := true, laidLooks := .later }
def FnChainBackUptoCardSaid : Prop := Claim7.holds Tryd.pinned (.plain (OpenSpec.upto fnChainBackSpec)) fnChainBackUptoCard
end Rows
end Go.Proofs.YthjpkfcejdddkaaDoor
