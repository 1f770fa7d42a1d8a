import Derived.Test.YtfafklfpikjheaaGreatP8
set_option linter.unusedVariables false
set_option linter.unusedSimpArgs false
/- Plain laws: the small model goes through a pass. -/
namespace Go.Am.Pu
open Go Go.Am Go.Proofs
set_option maxRecDepth 100000
theorem small_pass : (F_block_Pass 2000000000 (b0, f0, [[80, -40]], [])).map (fun x => x.2.2) = some 0 := by kernel_rfl
end Go.Am.Pu
