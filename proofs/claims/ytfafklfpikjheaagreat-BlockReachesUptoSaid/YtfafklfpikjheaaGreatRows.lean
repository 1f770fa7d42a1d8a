/-
  No cell of these rows narrows 'for every input' (looked for: loops, veiled, ifaces, maps, wideKeys, modest, calm, conditions, laid).
  DERIVED. THE GIVEN ROWS OF THIS SEAT. 5 by the template 'for every input the law returns true; each argument reads behind the call as it read before'; 0 by the template 'total and deterministic' (their statements: YtfafklfpikjheaaGreatTotals.lean).
  GIVEN WITH THE SEED: the statements are not yours to turn. If you find one false, say at which input.
  Laid BY PROGRAM, IN A SANDBOX (cutbox-rows.mjs): the forced cells as the released guide's own fill.sh prints them over the translation bf94c337f6dd4eb4… (all of the seat's roots in one cut). By AI agents, Wed Nov 11 2026. No macro, syntax, notation, axiom, sorry.
-/
import Derived.Test.YtfafklfpikjheaaGreatChecked
import GoSem.Claim
import GoSem.ClaimJoined
import GoSem.ClaimMapViews
import Derived.JoinedTies
import Derived.KernelRfl
namespace Go.Proofs.YtfafklfpikjheaaGreat
/- THE CELL 'sum', in the pinned program and in every row, IS THE sha256 OF THE DUMP (.gsa) THAT YtfafklfpikjheaaGreatProg.lean LOADS. Nothing in Lean hashes anything: it is a label: what it is worth is what the hold of that sum in a sandbox is worth. -/
noncomputable def Tryz.pinned : Pinned := { name := "ytfafklfpikjheaagreat", sum := "bf94c337f6dd4eb46f494914abaec28a15e8b00a512c28db58d2a45ff150058e", checked := Tryz.checked }
namespace Rows
def none {H : Type} : Left H := { results := [], args := [] }

/-- 'heraldlaw20.BlockRuns': WHATEVER THE INPUT: true; the input reads as it did. -/
def blockRunsSpec : ChangeSpec := { name := "blockRuns", fn := fun _ => fun
  | [d1, d2, d3] => { results := [.lit (.bool true)], args := [d1, d2, d3] }
  | _ => none }
def blockRunsRow : OpenClaim := { program := "ytfafklfpikjheaagreat", sum := "bf94c337f6dd4eb46f494914abaec28a15e8b00a512c28db58d2a45ff150058e", func := "herald/heraldlaw20.BlockRuns", spec := "blockRuns", unfollowed := true, recurses := true, apart := false }
def BlockRunsSaid : Prop := blockRunsRow.holds Tryz.pinned (OpenSpec.ofChange blockRunsSpec)

/-- ITS FALSE NEIGHBOUR: 'it returns false'. Refute it at one input. -/
def blockRunsWrong : ChangeSpec := { name := "blockRuns", fn := fun _ => fun
  | [d1, d2, d3] => { results := [.lit (.bool false)], args := [d1, d2, d3] }
  | _ => none }
def BlockRunsWrongFalsely : Prop := blockRunsRow.holds Tryz.pinned (OpenSpec.ofChange blockRunsWrong)

/-- 'heraldlaw20.BlockPasses': WHATEVER THE INPUT: true; the input reads as it did. -/
def blockPassesSpec : ChangeSpec := { name := "blockPasses", fn := fun _ => fun
  | [d1, d2] => { results := [.lit (.bool true)], args := [d1, d2] }
  | _ => none }
def blockPassesRow : OpenClaim := { program := "ytfafklfpikjheaagreat", sum := "bf94c337f6dd4eb46f494914abaec28a15e8b00a512c28db58d2a45ff150058e", func := "herald/heraldlaw20.BlockPasses", spec := "blockPasses", unfollowed := true, recurses := true, apart := false }
def BlockPassesSaid : Prop := blockPassesRow.holds Tryz.pinned (OpenSpec.ofChange blockPassesSpec)

/-- ITS FALSE NEIGHBOUR: 'it returns false'. Refute it at one input. -/
def blockPassesWrong : ChangeSpec := { name := "blockPasses", fn := fun _ => fun
  | [d1, d2] => { results := [.lit (.bool false)], args := [d1, d2] }
  | _ => none }
def BlockPassesWrongFalsely : Prop := blockPassesRow.holds Tryz.pinned (OpenSpec.ofChange blockPassesWrong)

/-- 'heraldlaw20.BlockOnes': WHATEVER THE INPUT: true; the input reads as it did. -/
def blockOnesSpec : ChangeSpec := { name := "blockOnes", fn := fun _ => fun
  | [d1, d2, d3] => { results := [.lit (.bool true)], args := [d1, d2, d3] }
  | _ => none }
def blockOnesRow : OpenClaim := { program := "ytfafklfpikjheaagreat", sum := "bf94c337f6dd4eb46f494914abaec28a15e8b00a512c28db58d2a45ff150058e", func := "herald/heraldlaw20.BlockOnes", spec := "blockOnes", unfollowed := true, recurses := true, apart := false }
def BlockOnesSaid : Prop := blockOnesRow.holds Tryz.pinned (OpenSpec.ofChange blockOnesSpec)

/-- ITS FALSE NEIGHBOUR: 'it returns false'. Refute it at one input. -/
def blockOnesWrong : ChangeSpec := { name := "blockOnes", fn := fun _ => fun
  | [d1, d2, d3] => { results := [.lit (.bool false)], args := [d1, d2, d3] }
  | _ => none }
def BlockOnesWrongFalsely : Prop := blockOnesRow.holds Tryz.pinned (OpenSpec.ofChange blockOnesWrong)

/-- 'heraldlaw20.BlockReaches': WHATEVER THE INPUT: true; the input reads as it did. -/
def blockReachesSpec : ChangeSpec := { name := "blockReaches", fn := fun _ => fun
  | [d1, d2] => { results := [.lit (.bool true)], args := [d1, d2] }
  | _ => none }
def blockReachesRow : OpenClaim := { program := "ytfafklfpikjheaagreat", sum := "bf94c337f6dd4eb46f494914abaec28a15e8b00a512c28db58d2a45ff150058e", func := "herald/heraldlaw20.BlockReaches", spec := "blockReaches", unfollowed := true, recurses := true, apart := false }
def BlockReachesSaid : Prop := blockReachesRow.holds Tryz.pinned (OpenSpec.ofChange blockReachesSpec)

/-- ITS FALSE NEIGHBOUR: 'it returns false'. Refute it at one input. -/
def blockReachesWrong : ChangeSpec := { name := "blockReaches", fn := fun _ => fun
  | [d1, d2] => { results := [.lit (.bool false)], args := [d1, d2] }
  | _ => none }
def BlockReachesWrongFalsely : Prop := blockReachesRow.holds Tryz.pinned (OpenSpec.ofChange blockReachesWrong)

/-- 'heraldlaw20.BlockMemory': WHATEVER THE INPUT: true; the input reads as it did. -/
def blockMemorySpec : ChangeSpec := { name := "blockMemory", fn := fun _ => fun
  | [d1, d2] => { results := [.lit (.bool true)], args := [d1, d2] }
  | _ => none }
def blockMemoryRow : OpenClaim := { program := "ytfafklfpikjheaagreat", sum := "bf94c337f6dd4eb46f494914abaec28a15e8b00a512c28db58d2a45ff150058e", func := "herald/heraldlaw20.BlockMemory", spec := "blockMemory", unfollowed := true, recurses := true, apart := false }
def BlockMemorySaid : Prop := blockMemoryRow.holds Tryz.pinned (OpenSpec.ofChange blockMemorySpec)

/-- ITS FALSE NEIGHBOUR: 'it returns false'. Refute it at one input. -/
def blockMemoryWrong : ChangeSpec := { name := "blockMemory", fn := fun _ => fun
  | [d1, d2] => { results := [.lit (.bool false)], args := [d1, d2] }
  | _ => none }
def BlockMemoryWrongFalsely : Prop := blockMemoryRow.holds Tryz.pinned (OpenSpec.ofChange blockMemoryWrong)

/- THE SECOND FORM. 'bulk': how many values and letters a reading holds, each counted each time it is reached (what is shared counts as often as it is met; a slice's spare places count too). A statement '..UptoSaid' is the law's where the arguments, and the package variables that the reading takes, are together of bulk at most 1048576: NARROWER than '..Said'. Prove '..Said' where nothing that the law and all that it calls make is longer than what came in: it says more and counts as full. Else prove '..UptoSaid'. A law counts once. -/
mutual
def uptoBulk {H : Type} : DataW H → Nat
  | .lit (.string bytes) => bytes.length + 1
  | .lit _ => 1
  | .nil => 1
  | .ptr d => uptoBulk d + 1
  | .slice elems spare => uptoBulkAll elems + uptoBulkAll spare + 1
  | .agg parts => uptoBulkAll parts + 1
  | .iface _ d => uptoBulk d + 1
  | .map entries => uptoBulkEntries entries + 1
  | .held _ => 1
def uptoBulkAll {H : Type} : List (DataW H) → Nat
  | [] => 0
  | d :: r => uptoBulk d + uptoBulkAll r
def uptoBulkEntries {H : Type} : List (Lit × DataW H) → Nat
  | [] => 0
  | x :: r => uptoBulkEntry x + uptoBulkEntries r
def uptoBulkEntry {H : Type} : Lit × DataW H → Nat
  | (.string bytes, d) => bytes.length + uptoBulk d + 1
  | (_, d) => uptoBulk d + 1
 end
def uptoSmall : (H : Type) → List (DataW H) → Bool := fun _ ds => decide (uptoBulkAll ds ≤ 1048576)
def OpenSpec.upto (s : _root_.Go.ChangeSpec) : _root_.Go.OpenSpec := { _root_.Go.OpenSpec.ofChange s with cond := some uptoSmall }

/-- 'heraldlaw20.BlockRuns', WHERE WHAT IT READS IS OF BULK AT MOST 1048576: true; the input reads as it did. -/
def blockRunsUptoRow : OpenClaim := { program := "ytfafklfpikjheaagreat", sum := "bf94c337f6dd4eb46f494914abaec28a15e8b00a512c28db58d2a45ff150058e", func := "herald/heraldlaw20.BlockRuns", spec := "blockRuns", unfollowed := true, recurses := true, apart := false, narrowed := true }
def BlockRunsUptoSaid : Prop := blockRunsUptoRow.holds Tryz.pinned (OpenSpec.upto blockRunsSpec)

/-- 'heraldlaw20.BlockPasses', WHERE WHAT IT READS IS OF BULK AT MOST 1048576: true; the input reads as it did. -/
def blockPassesUptoRow : OpenClaim := { program := "ytfafklfpikjheaagreat", sum := "bf94c337f6dd4eb46f494914abaec28a15e8b00a512c28db58d2a45ff150058e", func := "herald/heraldlaw20.BlockPasses", spec := "blockPasses", unfollowed := true, recurses := true, apart := false, narrowed := true }
def BlockPassesUptoSaid : Prop := blockPassesUptoRow.holds Tryz.pinned (OpenSpec.upto blockPassesSpec)

/-- 'heraldlaw20.BlockOnes', WHERE WHAT IT READS IS OF BULK AT MOST 1048576: true; the input reads as it did. -/
def blockOnesUptoRow : OpenClaim := { program := "ytfafklfpikjheaagreat", sum := "bf94c337f6dd4eb46f494914abaec28a15e8b00a512c28db58d2a45ff150058e", func := "herald/heraldlaw20.BlockOnes", spec := "blockOnes", unfollowed := true, recurses := true, apart := false, narrowed := true }
def BlockOnesUptoSaid : Prop := blockOnesUptoRow.holds Tryz.pinned (OpenSpec.upto blockOnesSpec)

/-- 'heraldlaw20.BlockReaches', WHERE WHAT IT READS IS OF BULK AT MOST 1048576: true; the input reads as it did. -/
def blockReachesUptoRow : OpenClaim := { program := "ytfafklfpikjheaagreat", sum := "bf94c337f6dd4eb46f494914abaec28a15e8b00a512c28db58d2a45ff150058e", func := "herald/heraldlaw20.BlockReaches", spec := "blockReaches", unfollowed := true, recurses := true, apart := false, narrowed := true }
def BlockReachesUptoSaid : Prop := blockReachesUptoRow.holds Tryz.pinned (OpenSpec.upto blockReachesSpec)

/-- 'heraldlaw20.BlockMemory', WHERE WHAT IT READS IS OF BULK AT MOST 1048576: true; the input reads as it did. -/
def blockMemoryUptoRow : OpenClaim := { program := "ytfafklfpikjheaagreat", sum := "bf94c337f6dd4eb46f494914abaec28a15e8b00a512c28db58d2a45ff150058e", func := "herald/heraldlaw20.BlockMemory", spec := "blockMemory", unfollowed := true, recurses := true, apart := false, narrowed := true }
def BlockMemoryUptoSaid : Prop := blockMemoryUptoRow.holds Tryz.pinned (OpenSpec.upto blockMemorySpec)

end Rows
end Go.Proofs.YtfafklfpikjheaaGreat
