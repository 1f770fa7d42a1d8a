/-
  NARROWER THAN 'FOR EVERY INPUT', by the rows' own cells (each row's printed sentence says how): CountProducts: laid · CountTapes: laid · CountSplits: laid · CountShares: laid · CountSums: laid.
  DERIVED. THE GIVEN ROWS OF THIS SEAT. 5 by the template 'for every input the law returns true; each argument reads behind the call as it read before'; 0 by the template 'total and deterministic' (their statements: YtllhngpojglipaaGreatDoorTotals.lean).
  GIVEN WITH THE SEED: the statements are not yours to turn. If you find one false, say at which input.
  Laid BY PROGRAM, IN A SANDBOX (cutbox-rows.mjs): the forced cells as the released guide's own fill.sh prints them over the translation 6c49c1e5f20a946d… (all of the seat's roots in one cut). By AI agents, Wed Nov 11 2026. No macro, syntax, notation, axiom, sorry.
-/
import Derived.Test.YtllhngpojglipaaGreatDoorChecked
import GoSem.PinnedTables
import GoSem.Claim
import GoSem.ClaimJoined
import GoSem.ClaimMapViews
import Derived.JoinedTies
import Derived.KernelRfl
namespace Go.Proofs.YtllhngpojglipaaGreatDoor
/- THE CELL 'sum', in the pinned program and in every row, IS THE sha256 OF THE DUMP (.gsa) THAT YtllhngpojglipaaGreatDoorProg.lean LOADS. Nothing in Lean hashes anything: it is a label: what it is worth is what the hold of that sum in a sandbox is worth. -/
noncomputable def Tryz.pinned : Pinned := { name := "ytllhngpojglipaagreatdoor", sum := "6c49c1e5f20a946d8b72609ab5f8132f06f9e498537b0515747b48ef401fa0cf", checked := Tryz.checked }
namespace Rows
def none {H : Type} : Left H := { results := [], args := [] }

/- WHAT THE LISTED PACKAGE-LEVEL VARIABLES READ AS WHEN THE CALL BEGINS. Each datum BY PROGRAM (the guide's laid-datum.mjs) off the statement by which the dump's own 'gosem.cut.vars' lays the variable. In a bare row this is a premise. The card (YtllhngpojglipaaGreatDoorCards.lean) ties it to the program's text. -/
def laid_unicode_utf8_acceptRanges {H : Type} : DataW H := .agg [.agg [.lit (.int .u8 128), .lit (.int .u8 191)], .agg [.lit (.int .u8 160), .lit (.int .u8 191)], .agg [.lit (.int .u8 128), .lit (.int .u8 159)], .agg [.lit (.int .u8 144), .lit (.int .u8 191)], .agg [.lit (.int .u8 128), .lit (.int .u8 143)], .agg [.lit (.int .u8 0), .lit (.int .u8 0)], .agg [.lit (.int .u8 0), .lit (.int .u8 0)], .agg [.lit (.int .u8 0), .lit (.int .u8 0)], .agg [.lit (.int .u8 0), .lit (.int .u8 0)], .agg [.lit (.int .u8 0), .lit (.int .u8 0)], .agg [.lit (.int .u8 0), .lit (.int .u8 0)], .agg [.lit (.int .u8 0), .lit (.int .u8 0)], .agg [.lit (.int .u8 0), .lit (.int .u8 0)], .agg [.lit (.int .u8 0), .lit (.int .u8 0)], .agg [.lit (.int .u8 0), .lit (.int .u8 0)], .agg [.lit (.int .u8 0), .lit (.int .u8 0)]]
/-- One of Go's own tables, pinned by name: the form's constant. -/
def laid_unicode_utf8_first : DataW Unit := Go.Pinned.utf8First

/-- 'heraldlaw26.CountProducts': WHATEVER THE INPUT: true; the input reads as it did. -/
def countProductsSpec : ChangeSpec := { name := "countProducts", fn := fun _ => fun
  | [d1, d2, d3] => { results := [.lit (.bool true)], args := [d1, d2, d3] }
  | _ => none }
def countProductsRow : OpenClaim := { program := "ytllhngpojglipaagreatdoor", sum := "6c49c1e5f20a946d8b72609ab5f8132f06f9e498537b0515747b48ef401fa0cf", func := "herald/heraldlaw26.CountProducts", spec := "countProducts", inPlace := ["internal/bytealg.IndexByteString", "internal/bytealg.IndexString"], unfollowed := true, recurses := true, named := ["unicode/utf8.first", "unicode/utf8.acceptRanges", "internal/bytealg.MaxLen"], plainKeys := false, apart := false, laid := [("unicode/utf8.acceptRanges", laid_unicode_utf8_acceptRanges), ("unicode/utf8.first", laid_unicode_utf8_first)] }
def CountProductsSaid : Prop := countProductsRow.holds Tryz.pinned (OpenSpec.ofChange countProductsSpec)

/-- ITS FALSE NEIGHBOUR: 'it returns false'. Refute it at one input. -/
def countProductsWrong : ChangeSpec := { name := "countProducts", fn := fun _ => fun
  | [d1, d2, d3] => { results := [.lit (.bool false)], args := [d1, d2, d3] }
  | _ => none }
def CountProductsWrongFalsely : Prop := countProductsRow.holds Tryz.pinned (OpenSpec.ofChange countProductsWrong)

/-- 'heraldlaw26.CountTapes': WHATEVER THE INPUT: true; the input reads as it did. -/
def countTapesSpec : ChangeSpec := { name := "countTapes", fn := fun _ => fun
  | [d1, d2, d3] => { results := [.lit (.bool true)], args := [d1, d2, d3] }
  | _ => none }
def countTapesRow : OpenClaim := { program := "ytllhngpojglipaagreatdoor", sum := "6c49c1e5f20a946d8b72609ab5f8132f06f9e498537b0515747b48ef401fa0cf", func := "herald/heraldlaw26.CountTapes", spec := "countTapes", inPlace := ["internal/bytealg.IndexByteString", "internal/bytealg.IndexString"], unfollowed := true, recurses := true, named := ["unicode/utf8.first", "unicode/utf8.acceptRanges", "internal/bytealg.MaxLen"], plainKeys := false, apart := false, laid := [("unicode/utf8.acceptRanges", laid_unicode_utf8_acceptRanges), ("unicode/utf8.first", laid_unicode_utf8_first)] }
def CountTapesSaid : Prop := countTapesRow.holds Tryz.pinned (OpenSpec.ofChange countTapesSpec)

/-- ITS FALSE NEIGHBOUR: 'it returns false'. Refute it at one input. -/
def countTapesWrong : ChangeSpec := { name := "countTapes", fn := fun _ => fun
  | [d1, d2, d3] => { results := [.lit (.bool false)], args := [d1, d2, d3] }
  | _ => none }
def CountTapesWrongFalsely : Prop := countTapesRow.holds Tryz.pinned (OpenSpec.ofChange countTapesWrong)

/-- 'heraldlaw26.CountSplits': WHATEVER THE INPUT: true; the input reads as it did. -/
def countSplitsSpec : ChangeSpec := { name := "countSplits", fn := fun _ => fun
  | [d1, d2, d3] => { results := [.lit (.bool true)], args := [d1, d2, d3] }
  | _ => none }
def countSplitsRow : OpenClaim := { program := "ytllhngpojglipaagreatdoor", sum := "6c49c1e5f20a946d8b72609ab5f8132f06f9e498537b0515747b48ef401fa0cf", func := "herald/heraldlaw26.CountSplits", spec := "countSplits", inPlace := ["internal/bytealg.IndexByteString", "internal/bytealg.IndexString"], unfollowed := true, recurses := true, named := ["unicode/utf8.first", "unicode/utf8.acceptRanges", "internal/bytealg.MaxLen"], plainKeys := false, apart := false, laid := [("unicode/utf8.acceptRanges", laid_unicode_utf8_acceptRanges), ("unicode/utf8.first", laid_unicode_utf8_first)] }
def CountSplitsSaid : Prop := countSplitsRow.holds Tryz.pinned (OpenSpec.ofChange countSplitsSpec)

/-- ITS FALSE NEIGHBOUR: 'it returns false'. Refute it at one input. -/
def countSplitsWrong : ChangeSpec := { name := "countSplits", fn := fun _ => fun
  | [d1, d2, d3] => { results := [.lit (.bool false)], args := [d1, d2, d3] }
  | _ => none }
def CountSplitsWrongFalsely : Prop := countSplitsRow.holds Tryz.pinned (OpenSpec.ofChange countSplitsWrong)

/-- 'heraldlaw26.CountShares': WHATEVER THE INPUT: true; the input reads as it did. -/
def countSharesSpec : ChangeSpec := { name := "countShares", fn := fun _ => fun
  | [d1, d2, d3] => { results := [.lit (.bool true)], args := [d1, d2, d3] }
  | _ => none }
def countSharesRow : OpenClaim := { program := "ytllhngpojglipaagreatdoor", sum := "6c49c1e5f20a946d8b72609ab5f8132f06f9e498537b0515747b48ef401fa0cf", func := "herald/heraldlaw26.CountShares", spec := "countShares", inPlace := ["internal/bytealg.IndexByteString", "internal/bytealg.IndexString"], unfollowed := true, recurses := true, named := ["unicode/utf8.first", "unicode/utf8.acceptRanges", "internal/bytealg.MaxLen"], plainKeys := false, apart := false, laid := [("unicode/utf8.acceptRanges", laid_unicode_utf8_acceptRanges), ("unicode/utf8.first", laid_unicode_utf8_first)] }
def CountSharesSaid : Prop := countSharesRow.holds Tryz.pinned (OpenSpec.ofChange countSharesSpec)

/-- ITS FALSE NEIGHBOUR: 'it returns false'. Refute it at one input. -/
def countSharesWrong : ChangeSpec := { name := "countShares", fn := fun _ => fun
  | [d1, d2, d3] => { results := [.lit (.bool false)], args := [d1, d2, d3] }
  | _ => none }
def CountSharesWrongFalsely : Prop := countSharesRow.holds Tryz.pinned (OpenSpec.ofChange countSharesWrong)

/-- 'heraldlaw26.CountSums': WHATEVER THE INPUT: true; the input reads as it did. -/
def countSumsSpec : ChangeSpec := { name := "countSums", fn := fun _ => fun
  | [d1, d2, d3] => { results := [.lit (.bool true)], args := [d1, d2, d3] }
  | _ => none }
def countSumsRow : OpenClaim := { program := "ytllhngpojglipaagreatdoor", sum := "6c49c1e5f20a946d8b72609ab5f8132f06f9e498537b0515747b48ef401fa0cf", func := "herald/heraldlaw26.CountSums", spec := "countSums", inPlace := ["internal/bytealg.IndexByteString", "internal/bytealg.IndexString"], unfollowed := true, recurses := true, named := ["unicode/utf8.first", "unicode/utf8.acceptRanges", "internal/bytealg.MaxLen"], plainKeys := false, apart := false, laid := [("unicode/utf8.acceptRanges", laid_unicode_utf8_acceptRanges), ("unicode/utf8.first", laid_unicode_utf8_first)] }
def CountSumsSaid : Prop := countSumsRow.holds Tryz.pinned (OpenSpec.ofChange countSumsSpec)

/-- ITS FALSE NEIGHBOUR: 'it returns false'. Refute it at one input. -/
def countSumsWrong : ChangeSpec := { name := "countSums", fn := fun _ => fun
  | [d1, d2, d3] => { results := [.lit (.bool false)], args := [d1, d2, d3] }
  | _ => none }
def CountSumsWrongFalsely : Prop := countSumsRow.holds Tryz.pinned (OpenSpec.ofChange countSumsWrong)

/- THE SECOND FORM. 'bulk': how many values and letters a reading holds, each counted each time it is reached (what is shared counts as often as it is met; a slice's spare places count too). A statement '..UptoSaid' is the law's where the arguments, and the package variables that the reading takes, are together of bulk at most 1048576: NARROWER than '..Said'. Prove '..Said' where nothing that the law and all that it calls make is longer than what came in: it says more and counts as full. Else prove '..UptoSaid'. A law counts once. -/
mutual
def uptoBulk {H : Type} : DataW H → Nat
  | .lit (.string bytes) => bytes.length + 1
  | .lit _ => 1
  | .nil => 1
  | .ptr d => uptoBulk d + 1
  | .slice elems spare => uptoBulkAll elems + uptoBulkAll spare + 1
  | .agg parts => uptoBulkAll parts + 1
  | .iface _ d => uptoBulk d + 1
  | .map entries => uptoBulkEntries entries + 1
  | .held _ => 1
def uptoBulkAll {H : Type} : List (DataW H) → Nat
  | [] => 0
  | d :: r => uptoBulk d + uptoBulkAll r
def uptoBulkEntries {H : Type} : List (Lit × DataW H) → Nat
  | [] => 0
  | x :: r => uptoBulkEntry x + uptoBulkEntries r
def uptoBulkEntry {H : Type} : Lit × DataW H → Nat
  | (.string bytes, d) => bytes.length + uptoBulk d + 1
  | (_, d) => uptoBulk d + 1
 end
def uptoSmall : (H : Type) → List (DataW H) → Bool := fun _ ds => decide (uptoBulkAll ds ≤ 1048576)
def OpenSpec.upto (s : _root_.Go.ChangeSpec) : _root_.Go.OpenSpec := { _root_.Go.OpenSpec.ofChange s with cond := some uptoSmall }

/-- 'heraldlaw26.CountProducts', WHERE WHAT IT READS IS OF BULK AT MOST 1048576: true; the input reads as it did. -/
def countProductsUptoRow : OpenClaim := { program := "ytllhngpojglipaagreatdoor", sum := "6c49c1e5f20a946d8b72609ab5f8132f06f9e498537b0515747b48ef401fa0cf", func := "herald/heraldlaw26.CountProducts", spec := "countProducts", inPlace := ["internal/bytealg.IndexByteString", "internal/bytealg.IndexString"], unfollowed := true, recurses := true, named := ["unicode/utf8.first", "unicode/utf8.acceptRanges", "internal/bytealg.MaxLen"], plainKeys := false, apart := false, laid := [("unicode/utf8.acceptRanges", laid_unicode_utf8_acceptRanges), ("unicode/utf8.first", laid_unicode_utf8_first)], narrowed := true }
def CountProductsUptoSaid : Prop := countProductsUptoRow.holds Tryz.pinned (OpenSpec.upto countProductsSpec)

/-- 'heraldlaw26.CountTapes', WHERE WHAT IT READS IS OF BULK AT MOST 1048576: true; the input reads as it did. -/
def countTapesUptoRow : OpenClaim := { program := "ytllhngpojglipaagreatdoor", sum := "6c49c1e5f20a946d8b72609ab5f8132f06f9e498537b0515747b48ef401fa0cf", func := "herald/heraldlaw26.CountTapes", spec := "countTapes", inPlace := ["internal/bytealg.IndexByteString", "internal/bytealg.IndexString"], unfollowed := true, recurses := true, named := ["unicode/utf8.first", "unicode/utf8.acceptRanges", "internal/bytealg.MaxLen"], plainKeys := false, apart := false, laid := [("unicode/utf8.acceptRanges", laid_unicode_utf8_acceptRanges), ("unicode/utf8.first", laid_unicode_utf8_first)], narrowed := true }
def CountTapesUptoSaid : Prop := countTapesUptoRow.holds Tryz.pinned (OpenSpec.upto countTapesSpec)

/-- 'heraldlaw26.CountSplits', WHERE WHAT IT READS IS OF BULK AT MOST 1048576: true; the input reads as it did. -/
def countSplitsUptoRow : OpenClaim := { program := "ytllhngpojglipaagreatdoor", sum := "6c49c1e5f20a946d8b72609ab5f8132f06f9e498537b0515747b48ef401fa0cf", func := "herald/heraldlaw26.CountSplits", spec := "countSplits", inPlace := ["internal/bytealg.IndexByteString", "internal/bytealg.IndexString"], unfollowed := true, recurses := true, named := ["unicode/utf8.first", "unicode/utf8.acceptRanges", "internal/bytealg.MaxLen"], plainKeys := false, apart := false, laid := [("unicode/utf8.acceptRanges", laid_unicode_utf8_acceptRanges), ("unicode/utf8.first", laid_unicode_utf8_first)], narrowed := true }
def CountSplitsUptoSaid : Prop := countSplitsUptoRow.holds Tryz.pinned (OpenSpec.upto countSplitsSpec)

/-- 'heraldlaw26.CountShares', WHERE WHAT IT READS IS OF BULK AT MOST 1048576: true; the input reads as it did. -/
def countSharesUptoRow : OpenClaim := { program := "ytllhngpojglipaagreatdoor", sum := "6c49c1e5f20a946d8b72609ab5f8132f06f9e498537b0515747b48ef401fa0cf", func := "herald/heraldlaw26.CountShares", spec := "countShares", inPlace := ["internal/bytealg.IndexByteString", "internal/bytealg.IndexString"], unfollowed := true, recurses := true, named := ["unicode/utf8.first", "unicode/utf8.acceptRanges", "internal/bytealg.MaxLen"], plainKeys := false, apart := false, laid := [("unicode/utf8.acceptRanges", laid_unicode_utf8_acceptRanges), ("unicode/utf8.first", laid_unicode_utf8_first)], narrowed := true }
def CountSharesUptoSaid : Prop := countSharesUptoRow.holds Tryz.pinned (OpenSpec.upto countSharesSpec)

/-- 'heraldlaw26.CountSums', WHERE WHAT IT READS IS OF BULK AT MOST 1048576: true; the input reads as it did. -/
def countSumsUptoRow : OpenClaim := { program := "ytllhngpojglipaagreatdoor", sum := "6c49c1e5f20a946d8b72609ab5f8132f06f9e498537b0515747b48ef401fa0cf", func := "herald/heraldlaw26.CountSums", spec := "countSums", inPlace := ["internal/bytealg.IndexByteString", "internal/bytealg.IndexString"], unfollowed := true, recurses := true, named := ["unicode/utf8.first", "unicode/utf8.acceptRanges", "internal/bytealg.MaxLen"], plainKeys := false, apart := false, laid := [("unicode/utf8.acceptRanges", laid_unicode_utf8_acceptRanges), ("unicode/utf8.first", laid_unicode_utf8_first)], narrowed := true }
def CountSumsUptoSaid : Prop := countSumsUptoRow.holds Tryz.pinned (OpenSpec.upto countSumsSpec)

end Rows
end Go.Proofs.YtllhngpojglipaaGreatDoor
