/-
  No cell of these rows narrows 'for every input' (looked for: loops, veiled, ifaces, maps, wideKeys, modest, calm, conditions, laid).
  DERIVED. THE GIVEN ROWS OF THIS SEAT. 9 by the template 'for every input the law returns true; each argument reads behind the call as it read before'; 0 by the template 'total and deterministic' (their statements: YtpdgokkbljiccaaGreatTotals.lean).
  GIVEN WITH THE SEED: the statements are not yours to turn. If you find one false, say at which input.
  Laid BY PROGRAM, IN A SANDBOX (cutbox-rows.mjs): the forced cells as the released guide's own fill.sh prints them over the translation a1caed05530f20d0… (all of the seat's roots in one cut). By AI agents, Wed Nov 11 2026. No macro, syntax, notation, axiom, sorry.
-/
import Derived.Test.YtpdgokkbljiccaaGreatChecked
import GoSem.Claim
import GoSem.ClaimJoined
import GoSem.ClaimMapViews
import Derived.JoinedTies
import Derived.KernelRfl
namespace Go.Proofs.YtpdgokkbljiccaaGreat
/- THE CELL 'sum', in the pinned program and in every row, IS THE sha256 OF THE DUMP (.gsa) THAT YtpdgokkbljiccaaGreatProg.lean LOADS. Nothing in Lean hashes anything: it is a label: what it is worth is what the hold of that sum in a sandbox is worth. -/
noncomputable def Tryz.pinned : Pinned := { name := "ytpdgokkbljiccaagreat", sum := "a1caed05530f20d0fbcc8b66556fd340775ec5431a3bb722077433662ae6b5f5", checked := Tryz.checked }
namespace Rows
def none {H : Type} : Left H := { results := [], args := [] }

/-- 'heraldlaw20.BlockMemory': WHATEVER THE INPUT: true; the input reads as it did. -/
def blockMemorySpec : ChangeSpec := { name := "blockMemory", fn := fun _ => fun
  | [d1, d2] => { results := [.lit (.bool true)], args := [d1, d2] }
  | _ => none }
def blockMemoryRow : OpenClaim := { program := "ytpdgokkbljiccaagreat", sum := "a1caed05530f20d0fbcc8b66556fd340775ec5431a3bb722077433662ae6b5f5", func := "herald/heraldlaw20.BlockMemory", spec := "blockMemory", unfollowed := true, recurses := true, plainKeys := false, apart := false }
def BlockMemorySaid : Prop := blockMemoryRow.holds Tryz.pinned (OpenSpec.ofChange blockMemorySpec)

/-- ITS FALSE NEIGHBOUR: 'it returns false'. Refute it at one input. -/
def blockMemoryWrong : ChangeSpec := { name := "blockMemory", fn := fun _ => fun
  | [d1, d2] => { results := [.lit (.bool false)], args := [d1, d2] }
  | _ => none }
def BlockMemoryWrongFalsely : Prop := blockMemoryRow.holds Tryz.pinned (OpenSpec.ofChange blockMemoryWrong)

/-- 'heraldlaw21.ModelScores': WHATEVER THE INPUT: true; the input reads as it did. -/
def modelScoresSpec : ChangeSpec := { name := "modelScores", fn := fun _ => fun
  | [d1, d2] => { results := [.lit (.bool true)], args := [d1, d2] }
  | _ => none }
def modelScoresRow : OpenClaim := { program := "ytpdgokkbljiccaagreat", sum := "a1caed05530f20d0fbcc8b66556fd340775ec5431a3bb722077433662ae6b5f5", func := "herald/heraldlaw21.ModelScores", spec := "modelScores", unfollowed := true, recurses := true, plainKeys := false, apart := false }
def ModelScoresSaid : Prop := modelScoresRow.holds Tryz.pinned (OpenSpec.ofChange modelScoresSpec)

/-- ITS FALSE NEIGHBOUR: 'it returns false'. Refute it at one input. -/
def modelScoresWrong : ChangeSpec := { name := "modelScores", fn := fun _ => fun
  | [d1, d2] => { results := [.lit (.bool false)], args := [d1, d2] }
  | _ => none }
def ModelScoresWrongFalsely : Prop := modelScoresRow.holds Tryz.pinned (OpenSpec.ofChange modelScoresWrong)

/-- 'heraldlaw21.ModelReach': WHATEVER THE INPUT: true; the input reads as it did. -/
def modelReachSpec : ChangeSpec := { name := "modelReach", fn := fun _ => fun
  | [d1, d2] => { results := [.lit (.bool true)], args := [d1, d2] }
  | _ => none }
def modelReachRow : OpenClaim := { program := "ytpdgokkbljiccaagreat", sum := "a1caed05530f20d0fbcc8b66556fd340775ec5431a3bb722077433662ae6b5f5", func := "herald/heraldlaw21.ModelReach", spec := "modelReach", unfollowed := true, recurses := true, plainKeys := false, apart := false }
def ModelReachSaid : Prop := modelReachRow.holds Tryz.pinned (OpenSpec.ofChange modelReachSpec)

/-- ITS FALSE NEIGHBOUR: 'it returns false'. Refute it at one input. -/
def modelReachWrong : ChangeSpec := { name := "modelReach", fn := fun _ => fun
  | [d1, d2] => { results := [.lit (.bool false)], args := [d1, d2] }
  | _ => none }
def ModelReachWrongFalsely : Prop := modelReachRow.holds Tryz.pinned (OpenSpec.ofChange modelReachWrong)

/-- 'heraldlaw21.ModelAsks': WHATEVER THE INPUT: true; the input reads as it did. -/
def modelAsksSpec : ChangeSpec := { name := "modelAsks", fn := fun _ => fun
  | [d1, d2, d3] => { results := [.lit (.bool true)], args := [d1, d2, d3] }
  | _ => none }
def modelAsksRow : OpenClaim := { program := "ytpdgokkbljiccaagreat", sum := "a1caed05530f20d0fbcc8b66556fd340775ec5431a3bb722077433662ae6b5f5", func := "herald/heraldlaw21.ModelAsks", spec := "modelAsks", unfollowed := true, recurses := true, plainKeys := false, apart := false }
def ModelAsksSaid : Prop := modelAsksRow.holds Tryz.pinned (OpenSpec.ofChange modelAsksSpec)

/-- ITS FALSE NEIGHBOUR: 'it returns false'. Refute it at one input. -/
def modelAsksWrong : ChangeSpec := { name := "modelAsks", fn := fun _ => fun
  | [d1, d2, d3] => { results := [.lit (.bool false)], args := [d1, d2, d3] }
  | _ => none }
def ModelAsksWrongFalsely : Prop := modelAsksRow.holds Tryz.pinned (OpenSpec.ofChange modelAsksWrong)

/-- 'heraldlaw21.ModelCuts': WHATEVER THE INPUT: true; the input reads as it did. -/
def modelCutsSpec : ChangeSpec := { name := "modelCuts", fn := fun _ => fun
  | [d1, d2, d3] => { results := [.lit (.bool true)], args := [d1, d2, d3] }
  | _ => none }
def modelCutsRow : OpenClaim := { program := "ytpdgokkbljiccaagreat", sum := "a1caed05530f20d0fbcc8b66556fd340775ec5431a3bb722077433662ae6b5f5", func := "herald/heraldlaw21.ModelCuts", spec := "modelCuts", inPlace := ["slices.overlaps[int]"], unfollowed := true, recurses := true, plainKeys := false, apart := false }
def ModelCutsSaid : Prop := modelCutsRow.holds Tryz.pinned (OpenSpec.ofChange modelCutsSpec)

/-- ITS FALSE NEIGHBOUR: 'it returns false'. Refute it at one input. -/
def modelCutsWrong : ChangeSpec := { name := "modelCuts", fn := fun _ => fun
  | [d1, d2, d3] => { results := [.lit (.bool false)], args := [d1, d2, d3] }
  | _ => none }
def ModelCutsWrongFalsely : Prop := modelCutsRow.holds Tryz.pinned (OpenSpec.ofChange modelCutsWrong)

/-- 'heraldlaw21.ModelMemory': WHATEVER THE INPUT: true; the input reads as it did. -/
def modelMemorySpec : ChangeSpec := { name := "modelMemory", fn := fun _ => fun
  | [d1, d2] => { results := [.lit (.bool true)], args := [d1, d2] }
  | _ => none }
def modelMemoryRow : OpenClaim := { program := "ytpdgokkbljiccaagreat", sum := "a1caed05530f20d0fbcc8b66556fd340775ec5431a3bb722077433662ae6b5f5", func := "herald/heraldlaw21.ModelMemory", spec := "modelMemory", inPlace := ["slices.overlaps[int]"], unfollowed := true, recurses := true, plainKeys := false, apart := false }
def ModelMemorySaid : Prop := modelMemoryRow.holds Tryz.pinned (OpenSpec.ofChange modelMemorySpec)

/-- ITS FALSE NEIGHBOUR: 'it returns false'. Refute it at one input. -/
def modelMemoryWrong : ChangeSpec := { name := "modelMemory", fn := fun _ => fun
  | [d1, d2] => { results := [.lit (.bool false)], args := [d1, d2] }
  | _ => none }
def ModelMemoryWrongFalsely : Prop := modelMemoryRow.holds Tryz.pinned (OpenSpec.ofChange modelMemoryWrong)

/-- 'heraldlaw21.ModelCopies': WHATEVER THE INPUT: true; the input reads as it did. -/
def modelCopiesSpec : ChangeSpec := { name := "modelCopies", fn := fun _ => fun
  | [d1, d2, d3] => { results := [.lit (.bool true)], args := [d1, d2, d3] }
  | _ => none }
def modelCopiesRow : OpenClaim := { program := "ytpdgokkbljiccaagreat", sum := "a1caed05530f20d0fbcc8b66556fd340775ec5431a3bb722077433662ae6b5f5", func := "herald/heraldlaw21.ModelCopies", spec := "modelCopies", inPlace := ["slices.overlaps[int]"], unfollowed := true, recurses := true, plainKeys := false, apart := false }
def ModelCopiesSaid : Prop := modelCopiesRow.holds Tryz.pinned (OpenSpec.ofChange modelCopiesSpec)

/-- ITS FALSE NEIGHBOUR: 'it returns false'. Refute it at one input. -/
def modelCopiesWrong : ChangeSpec := { name := "modelCopies", fn := fun _ => fun
  | [d1, d2, d3] => { results := [.lit (.bool false)], args := [d1, d2, d3] }
  | _ => none }
def ModelCopiesWrongFalsely : Prop := modelCopiesRow.holds Tryz.pinned (OpenSpec.ofChange modelCopiesWrong)

/-- 'heraldlaw21.ModelPlays': WHATEVER THE INPUT: true; the input reads as it did. -/
def modelPlaysSpec : ChangeSpec := { name := "modelPlays", fn := fun _ => fun
  | [d1, d2, d3] => { results := [.lit (.bool true)], args := [d1, d2, d3] }
  | _ => none }
def modelPlaysRow : OpenClaim := { program := "ytpdgokkbljiccaagreat", sum := "a1caed05530f20d0fbcc8b66556fd340775ec5431a3bb722077433662ae6b5f5", func := "herald/heraldlaw21.ModelPlays", spec := "modelPlays", inPlace := ["slices.overlaps[int]"], unfollowed := true, recurses := true, plainKeys := false, apart := false }
def ModelPlaysSaid : Prop := modelPlaysRow.holds Tryz.pinned (OpenSpec.ofChange modelPlaysSpec)

/-- ITS FALSE NEIGHBOUR: 'it returns false'. Refute it at one input. -/
def modelPlaysWrong : ChangeSpec := { name := "modelPlays", fn := fun _ => fun
  | [d1, d2, d3] => { results := [.lit (.bool false)], args := [d1, d2, d3] }
  | _ => none }
def ModelPlaysWrongFalsely : Prop := modelPlaysRow.holds Tryz.pinned (OpenSpec.ofChange modelPlaysWrong)

/-- 'heraldlaw21.ModelNil': WHATEVER THE INPUT: true; the input reads as it did. -/
def modelNilSpec : ChangeSpec := { name := "modelNil", fn := fun _ => fun
  | [d1, d2] => { results := [.lit (.bool true)], args := [d1, d2] }
  | _ => none }
def modelNilRow : OpenClaim := { program := "ytpdgokkbljiccaagreat", sum := "a1caed05530f20d0fbcc8b66556fd340775ec5431a3bb722077433662ae6b5f5", func := "herald/heraldlaw21.ModelNil", spec := "modelNil", inPlace := ["slices.overlaps[int]"], unfollowed := true, recurses := true, plainKeys := false, apart := false }
def ModelNilSaid : Prop := modelNilRow.holds Tryz.pinned (OpenSpec.ofChange modelNilSpec)

/-- ITS FALSE NEIGHBOUR: 'it returns false'. Refute it at one input. -/
def modelNilWrong : ChangeSpec := { name := "modelNil", fn := fun _ => fun
  | [d1, d2] => { results := [.lit (.bool false)], args := [d1, d2] }
  | _ => none }
def ModelNilWrongFalsely : Prop := modelNilRow.holds Tryz.pinned (OpenSpec.ofChange modelNilWrong)

/- THE SECOND FORM. 'bulk': how many values and letters a reading holds, each counted each time it is reached (what is shared counts as often as it is met; a slice's spare places count too). A statement '..UptoSaid' is the law's where the arguments, and the package variables that the reading takes, are together of bulk at most 1048576: NARROWER than '..Said'. Prove '..Said' where nothing that the law and all that it calls make is longer than what came in: it says more and counts as full. Else prove '..UptoSaid'. A law counts once. -/
mutual
def uptoBulk {H : Type} : DataW H → Nat
  | .lit (.string bytes) => bytes.length + 1
  | .lit _ => 1
  | .nil => 1
  | .ptr d => uptoBulk d + 1
  | .slice elems spare => uptoBulkAll elems + uptoBulkAll spare + 1
  | .agg parts => uptoBulkAll parts + 1
  | .iface _ d => uptoBulk d + 1
  | .map entries => uptoBulkEntries entries + 1
  | .held _ => 1
def uptoBulkAll {H : Type} : List (DataW H) → Nat
  | [] => 0
  | d :: r => uptoBulk d + uptoBulkAll r
def uptoBulkEntries {H : Type} : List (Lit × DataW H) → Nat
  | [] => 0
  | x :: r => uptoBulkEntry x + uptoBulkEntries r
def uptoBulkEntry {H : Type} : Lit × DataW H → Nat
  | (.string bytes, d) => bytes.length + uptoBulk d + 1
  | (_, d) => uptoBulk d + 1
 end
def uptoSmall : (H : Type) → List (DataW H) → Bool := fun _ ds => decide (uptoBulkAll ds ≤ 1048576)
def OpenSpec.upto (s : _root_.Go.ChangeSpec) : _root_.Go.OpenSpec := { _root_.Go.OpenSpec.ofChange s with cond := some uptoSmall }

/-- 'heraldlaw20.BlockMemory', WHERE WHAT IT READS IS OF BULK AT MOST 1048576: true; the input reads as it did. -/
def blockMemoryUptoRow : OpenClaim := { program := "ytpdgokkbljiccaagreat", sum := "a1caed05530f20d0fbcc8b66556fd340775ec5431a3bb722077433662ae6b5f5", func := "herald/heraldlaw20.BlockMemory", spec := "blockMemory", unfollowed := true, recurses := true, plainKeys := false, apart := false, narrowed := true }
def BlockMemoryUptoSaid : Prop := blockMemoryUptoRow.holds Tryz.pinned (OpenSpec.upto blockMemorySpec)

/-- 'heraldlaw21.ModelScores', WHERE WHAT IT READS IS OF BULK AT MOST 1048576: true; the input reads as it did. -/
def modelScoresUptoRow : OpenClaim := { program := "ytpdgokkbljiccaagreat", sum := "a1caed05530f20d0fbcc8b66556fd340775ec5431a3bb722077433662ae6b5f5", func := "herald/heraldlaw21.ModelScores", spec := "modelScores", unfollowed := true, recurses := true, plainKeys := false, apart := false, narrowed := true }
def ModelScoresUptoSaid : Prop := modelScoresUptoRow.holds Tryz.pinned (OpenSpec.upto modelScoresSpec)

/-- 'heraldlaw21.ModelReach', WHERE WHAT IT READS IS OF BULK AT MOST 1048576: true; the input reads as it did. -/
def modelReachUptoRow : OpenClaim := { program := "ytpdgokkbljiccaagreat", sum := "a1caed05530f20d0fbcc8b66556fd340775ec5431a3bb722077433662ae6b5f5", func := "herald/heraldlaw21.ModelReach", spec := "modelReach", unfollowed := true, recurses := true, plainKeys := false, apart := false, narrowed := true }
def ModelReachUptoSaid : Prop := modelReachUptoRow.holds Tryz.pinned (OpenSpec.upto modelReachSpec)

/-- 'heraldlaw21.ModelAsks', WHERE WHAT IT READS IS OF BULK AT MOST 1048576: true; the input reads as it did. -/
def modelAsksUptoRow : OpenClaim := { program := "ytpdgokkbljiccaagreat", sum := "a1caed05530f20d0fbcc8b66556fd340775ec5431a3bb722077433662ae6b5f5", func := "herald/heraldlaw21.ModelAsks", spec := "modelAsks", unfollowed := true, recurses := true, plainKeys := false, apart := false, narrowed := true }
def ModelAsksUptoSaid : Prop := modelAsksUptoRow.holds Tryz.pinned (OpenSpec.upto modelAsksSpec)

/-- 'heraldlaw21.ModelCuts', WHERE WHAT IT READS IS OF BULK AT MOST 1048576: true; the input reads as it did. -/
def modelCutsUptoRow : OpenClaim := { program := "ytpdgokkbljiccaagreat", sum := "a1caed05530f20d0fbcc8b66556fd340775ec5431a3bb722077433662ae6b5f5", func := "herald/heraldlaw21.ModelCuts", spec := "modelCuts", inPlace := ["slices.overlaps[int]"], unfollowed := true, recurses := true, plainKeys := false, apart := false, narrowed := true }
def ModelCutsUptoSaid : Prop := modelCutsUptoRow.holds Tryz.pinned (OpenSpec.upto modelCutsSpec)

/-- 'heraldlaw21.ModelMemory', WHERE WHAT IT READS IS OF BULK AT MOST 1048576: true; the input reads as it did. -/
def modelMemoryUptoRow : OpenClaim := { program := "ytpdgokkbljiccaagreat", sum := "a1caed05530f20d0fbcc8b66556fd340775ec5431a3bb722077433662ae6b5f5", func := "herald/heraldlaw21.ModelMemory", spec := "modelMemory", inPlace := ["slices.overlaps[int]"], unfollowed := true, recurses := true, plainKeys := false, apart := false, narrowed := true }
def ModelMemoryUptoSaid : Prop := modelMemoryUptoRow.holds Tryz.pinned (OpenSpec.upto modelMemorySpec)

/-- 'heraldlaw21.ModelCopies', WHERE WHAT IT READS IS OF BULK AT MOST 1048576: true; the input reads as it did. -/
def modelCopiesUptoRow : OpenClaim := { program := "ytpdgokkbljiccaagreat", sum := "a1caed05530f20d0fbcc8b66556fd340775ec5431a3bb722077433662ae6b5f5", func := "herald/heraldlaw21.ModelCopies", spec := "modelCopies", inPlace := ["slices.overlaps[int]"], unfollowed := true, recurses := true, plainKeys := false, apart := false, narrowed := true }
def ModelCopiesUptoSaid : Prop := modelCopiesUptoRow.holds Tryz.pinned (OpenSpec.upto modelCopiesSpec)

/-- 'heraldlaw21.ModelPlays', WHERE WHAT IT READS IS OF BULK AT MOST 1048576: true; the input reads as it did. -/
def modelPlaysUptoRow : OpenClaim := { program := "ytpdgokkbljiccaagreat", sum := "a1caed05530f20d0fbcc8b66556fd340775ec5431a3bb722077433662ae6b5f5", func := "herald/heraldlaw21.ModelPlays", spec := "modelPlays", inPlace := ["slices.overlaps[int]"], unfollowed := true, recurses := true, plainKeys := false, apart := false, narrowed := true }
def ModelPlaysUptoSaid : Prop := modelPlaysUptoRow.holds Tryz.pinned (OpenSpec.upto modelPlaysSpec)

/-- 'heraldlaw21.ModelNil', WHERE WHAT IT READS IS OF BULK AT MOST 1048576: true; the input reads as it did. -/
def modelNilUptoRow : OpenClaim := { program := "ytpdgokkbljiccaagreat", sum := "a1caed05530f20d0fbcc8b66556fd340775ec5431a3bb722077433662ae6b5f5", func := "herald/heraldlaw21.ModelNil", spec := "modelNil", inPlace := ["slices.overlaps[int]"], unfollowed := true, recurses := true, plainKeys := false, apart := false, narrowed := true }
def ModelNilUptoSaid : Prop := modelNilUptoRow.holds Tryz.pinned (OpenSpec.upto modelNilSpec)

end Rows
end Go.Proofs.YtpdgokkbljiccaaGreat
