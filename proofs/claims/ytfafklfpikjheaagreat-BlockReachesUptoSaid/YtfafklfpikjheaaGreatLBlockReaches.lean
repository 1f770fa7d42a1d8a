/- BlockReaches: of a valid model rows within the reach go through all blocks without an error, and stay within the next two reaches.
On condition that all that is handed in has 2^20 values and letters at most (the row's own bound). -/
import Derived.Test.YtfafklfpikjheaaGreatP17
import Derived.Test.YtfafklfpikjheaaGreatRows
import Derived.Test.YtfafklfpikjheaaGreatA7
import Derived.ChangeCalls
import Derived.Test.YtfafklfpikjheaaGreatS7
set_option linter.unusedVariables false
set_option linter.unusedSimpArgs false
/- 'BlockReaches', out of what its function computes. -/
namespace Go.Proofs.YtfafklfpikjheaaGreat
open Go Go.Am Go.ChangeShapes Go.WideShapes Go.ChangeAt Go.RowKit
set_option maxRecDepth 100000

theorem blockReaches_bulkAll {H : Type} (l : List (DataW H)) : Rows.uptoBulkAll l = (l.map Rows.uptoBulk).sum := by
  induction l with
  | nil => rfl
  | cons d l ih => simp only [Rows.uptoBulkAll, List.map_cons, List.sum_cons, ih]

theorem blockReaches_blk {H : Type} : Blk (H := H) Rows.uptoBulk where
  lit l := by cases l <;> simp [Rows.uptoBulk]
  str s := by simp [Rows.uptoBulk]
  nil := by simp [Rows.uptoBulk]
  slice es sp := by simp only [Rows.uptoBulk]; rw [blockReaches_bulkAll es]; omega
  agg ps := by simp only [Rows.uptoBulk]; rw [blockReaches_bulkAll ps]; omega

theorem blockReaches_lifted (plain : ∀ x : (tup (E_law20_BlockReaches 0).ps).den, wfT (tup (E_law20_BlockReaches 0).ps) x → bulkT (tup (E_law20_BlockReaches 0).ps) x ≤ 1048576 → ∃ n, F_law20_BlockReaches n x = some true) (os : Os) (started : os.Started) (H : Type) (enc : TypeId × Value → H) (F : Stop.Interp) :
    ReturnsInHanded {} Tryz.checked os 6 .any ((Rows.OpenSpec.upto Rows.blockReachesSpec).pre6 enc Tryz.prog Tryz.f6 Rows.blockReachesUptoRow.domain false) (((Rows.OpenSpec.upto Rows.blockReachesSpec).at F).post enc Tryz.prog Tryz.f6 false true false false) := by
  refine returnsInHanded_of_cond (C := Tryz.checked) (s := Rows.OpenSpec.upto Rows.blockReachesSpec) (k := Rows.uptoSmall) rfl (by kernel_rfl) started (by kernel_rfl) Tryz.func6
    (OpenSpec.witness (enc := enc) (C := Tryz.checked) (s := Rows.OpenSpec.upto Rows.blockReachesSpec) (k := Rows.uptoSmall) rfl false ⟨#[], #[.agg #[.int .i64 0, .int .i64 0, .int .i64 0, .int .i64 0, .int .i64 0, .int .i64 0, .slice none 0 0, .slice none 0 0, .slice none 0 0, .int .i64 0, .slice none 0 0, .slice none 0 0, .slice none 0 0, .slice none 0 0, .slice none 0 0, .slice none 0 0, .int .i64 0], .slice none 0 0], []⟩ 8 (by kernel_rfl) (by kernel_rfl) (by kernel_rfl)
      (x := ([.agg [.agg [.lit (.int .i64 0), .lit (.int .i64 0), .lit (.int .i64 0), .lit (.int .i64 0), .lit (.int .i64 0), .lit (.int .i64 0)], .agg [.nil, .nil], .nil, .lit (.int .i64 0), .nil, .nil, .nil, .nil, .nil, .nil, .lit (.int .i64 0)], .nil], [], [])) (by kernel_rfl) rfl (by kernel_rfl)) ?_
  intro W base args ds gs before hval hW _ hk _
  obtain ⟨pa, pv, hA, hV, _, _, _⟩ := id hW
  have hg : gs = [] := by
    cases gs with
    | nil => rfl
    | cons _ _ => exact hV.elim
  subst hg
  have hl : ds.length = 2 := (trodAll_length hA).2
  have hb : (ds.map Rows.uptoBulk).sum ≤ 1048576 := by
    rw [← blockReaches_bulkAll]
    have := of_decide_eq_true hk
    simpa using this
  match ds, hl with
  | [d0, d1], _ =>
    exact law_calls (P := Tryz.prog) (τs := (E_law20_BlockReaches 0).ps) (E := fun n => F_law20_BlockReaches n) (tb := 4) (n := 12) P_law20_BlockReaches blockReaches_blk (by kernel_rfl) (by kernel_rfl) (by kernel_rfl) rfl (by kernel_rfl) rfl ⟨rfl, rfl, rfl⟩ hval hW hb plain

theorem blockReaches_of (plain : ∀ x : (tup (E_law20_BlockReaches 0).ps).den, wfT (tup (E_law20_BlockReaches 0).ps) x → bulkT (tup (E_law20_BlockReaches 0).ps) x ≤ 1048576 → ∃ n, F_law20_BlockReaches n x = some true) : Rows.BlockReachesUptoSaid :=
  OpenClaim.holds_of_cond 6 Tryz.f6 rfl rfl rfl rfl rfl rfl rfl ⟨rfl, rfl, rfl, rfl, rfl⟩ rfl rfl rfl rfl rfl (by kernel_rfl) Tryz.func6 (by kernel_rfl)
    (of_decide_eq_true (by kernel_rfl)) (by unfold Func.isWrapper; first | (rw [if_pos (by decide +kernel)]; kernel_rfl) | (rw [if_neg (by decide +kernel)]; exact ⟨rfl, rfl⟩))
    (fun os started H enc _ F => blockReaches_lifted plain os started H enc F)

end Go.Proofs.YtfafklfpikjheaaGreat

namespace Go.Proofs.YtfafklfpikjheaaGreat
open Go Go.Am
theorem blockReaches_holds : Rows.BlockReachesUptoSaid := blockReaches_of (fun x h b => Pu.blockReaches_plain x h b)
end Go.Proofs.YtfafklfpikjheaaGreat
