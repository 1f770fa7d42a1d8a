/-
  DERIVED. GIVEN WITH THE SEED: THE CARDS: each row of YtllhngpojglipaaGreatDoorRows.lean that lists a variable, with what it lists TIED to the program's text (the seventh form; the later family's looks); each row that meets fmt, with fmt's text TOLD by the authors' own Lean function (tested against real Go, not proved from fmt's source: count such statements apart). THE CARD IS WHAT COUNTS. Prove the row's statement (the work); the ties are given (YtllhngpojglipaaGreatDoorTie.lean); close each card by the builder's one call (the guide's Derived/Test/ToyasCard.lean, 'card_holds'). Laid BY PROGRAM, IN A SANDBOX (cutbox-door.mjs). By AI agents, Wed Nov 11 2026. No macro, syntax, notation, axiom, sorry.
-/
import Derived.Test.YtllhngpojglipaaGreatDoorRows
import GoSem.ClaimSeven
namespace Go.Proofs.YtllhngpojglipaaGreatDoor
namespace Rows

/-- THE TIED CARD OF 'heraldlaw26.CountProducts'. -/
def countProductsCard : Claim7 := { stood := { row := countProductsRow, standIns := [], harness := (true, "70b15ba177665ef46943e500ece2a73ecf892373e41bede2dc890b553243d681"), looks := false }, kinds := [], alts := [], laidByText := true, laidKinds := [.data, .pinned], laidTests := true, laidLooks := .later }
def CountProductsCardSaid : Prop := Claim7.holds Tryz.pinned (.plain (OpenSpec.ofChange countProductsSpec)) countProductsCard

/-- THE TIED CARD OF 'heraldlaw26.CountTapes'. -/
def countTapesCard : Claim7 := { stood := { row := countTapesRow, standIns := [], harness := (true, "70b15ba177665ef46943e500ece2a73ecf892373e41bede2dc890b553243d681"), looks := false }, kinds := [], alts := [], laidByText := true, laidKinds := [.data, .pinned], laidTests := true, laidLooks := .later }
def CountTapesCardSaid : Prop := Claim7.holds Tryz.pinned (.plain (OpenSpec.ofChange countTapesSpec)) countTapesCard

/-- THE TIED CARD OF 'heraldlaw26.CountSplits'. -/
def countSplitsCard : Claim7 := { stood := { row := countSplitsRow, standIns := [], harness := (true, "70b15ba177665ef46943e500ece2a73ecf892373e41bede2dc890b553243d681"), looks := false }, kinds := [], alts := [], laidByText := true, laidKinds := [.data, .pinned], laidTests := true, laidLooks := .later }
def CountSplitsCardSaid : Prop := Claim7.holds Tryz.pinned (.plain (OpenSpec.ofChange countSplitsSpec)) countSplitsCard

/-- THE TIED CARD OF 'heraldlaw26.CountShares'. -/
def countSharesCard : Claim7 := { stood := { row := countSharesRow, standIns := [], harness := (true, "70b15ba177665ef46943e500ece2a73ecf892373e41bede2dc890b553243d681"), looks := false }, kinds := [], alts := [], laidByText := true, laidKinds := [.data, .pinned], laidTests := true, laidLooks := .later }
def CountSharesCardSaid : Prop := Claim7.holds Tryz.pinned (.plain (OpenSpec.ofChange countSharesSpec)) countSharesCard

/-- THE TIED CARD OF 'heraldlaw26.CountSums'. -/
def countSumsCard : Claim7 := { stood := { row := countSumsRow, standIns := [], harness := (true, "70b15ba177665ef46943e500ece2a73ecf892373e41bede2dc890b553243d681"), looks := false }, kinds := [], alts := [], laidByText := true, laidKinds := [.data, .pinned], laidTests := true, laidLooks := .later }
def CountSumsCardSaid : Prop := Claim7.holds Tryz.pinned (.plain (OpenSpec.ofChange countSumsSpec)) countSumsCard

/-- THE SECOND FORM's CARD OF 'heraldlaw26.CountProducts'. -/
def countProductsUptoCard : Claim7 := { stood := { row := countProductsUptoRow, standIns := [], harness := (true, "70b15ba177665ef46943e500ece2a73ecf892373e41bede2dc890b553243d681"), looks := false }, kinds := [], alts := [], laidByText := true, laidKinds := [.data, .pinned], laidTests := true, laidLooks := .later }
def CountProductsUptoCardSaid : Prop := Claim7.holds Tryz.pinned (.plain (OpenSpec.upto countProductsSpec)) countProductsUptoCard

/-- THE SECOND FORM's CARD OF 'heraldlaw26.CountTapes'. -/
def countTapesUptoCard : Claim7 := { stood := { row := countTapesUptoRow, standIns := [], harness := (true, "70b15ba177665ef46943e500ece2a73ecf892373e41bede2dc890b553243d681"), looks := false }, kinds := [], alts := [], laidByText := true, laidKinds := [.data, .pinned], laidTests := true, laidLooks := .later }
def CountTapesUptoCardSaid : Prop := Claim7.holds Tryz.pinned (.plain (OpenSpec.upto countTapesSpec)) countTapesUptoCard

/-- THE SECOND FORM's CARD OF 'heraldlaw26.CountSplits'. -/
def countSplitsUptoCard : Claim7 := { stood := { row := countSplitsUptoRow, standIns := [], harness := (true, "70b15ba177665ef46943e500ece2a73ecf892373e41bede2dc890b553243d681"), looks := false }, kinds := [], alts := [], laidByText := true, laidKinds := [.data, .pinned], laidTests := true, laidLooks := .later }
def CountSplitsUptoCardSaid : Prop := Claim7.holds Tryz.pinned (.plain (OpenSpec.upto countSplitsSpec)) countSplitsUptoCard

/-- THE SECOND FORM's CARD OF 'heraldlaw26.CountShares'. -/
def countSharesUptoCard : Claim7 := { stood := { row := countSharesUptoRow, standIns := [], harness := (true, "70b15ba177665ef46943e500ece2a73ecf892373e41bede2dc890b553243d681"), looks := false }, kinds := [], alts := [], laidByText := true, laidKinds := [.data, .pinned], laidTests := true, laidLooks := .later }
def CountSharesUptoCardSaid : Prop := Claim7.holds Tryz.pinned (.plain (OpenSpec.upto countSharesSpec)) countSharesUptoCard

/-- THE SECOND FORM's CARD OF 'heraldlaw26.CountSums'. -/
def countSumsUptoCard : Claim7 := { stood := { row := countSumsUptoRow, standIns := [], harness := (true, "70b15ba177665ef46943e500ece2a73ecf892373e41bede2dc890b553243d681"), looks := false }, kinds := [], alts := [], laidByText := true, laidKinds := [.data, .pinned], laidTests := true, laidLooks := .later }
def CountSumsUptoCardSaid : Prop := Claim7.holds Tryz.pinned (.plain (OpenSpec.upto countSumsSpec)) countSumsUptoCard
end Rows
end Go.Proofs.YtllhngpojglipaaGreatDoor
