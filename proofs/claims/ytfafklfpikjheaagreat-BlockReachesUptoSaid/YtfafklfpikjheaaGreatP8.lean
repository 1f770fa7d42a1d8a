import Derived.Test.YtfafklfpikjheaaGreatP7
set_option linter.unusedVariables false
set_option linter.unusedSimpArgs false
/- Plain laws: the bend of the small model of the laws of layer 20. -/
namespace Go.Am.Pu
open Go Go.Am Go.Proofs
set_option maxRecDepth 100000

def bend0 : List Int := [0, 1, 1, 2, 2, 3, 4, 4, 5, 6, 7, 8, 9, 10, 11, 12, 13, 14, 15, 16, 17, 18, 19, 20, 21, 22, 23, 24, 25, 27, 28, 29, 30, 31, 32, 33, 34, 35, 36, 37, 39, 40, 41, 42, 43, 44, 45, 46, 47, 48, 49, 50, 51, 52, 53, 54, 55, 56, 57, 58, 59, 60, 61, 62, 63, 64, 65, 66, 67, 68, 69, 70, 71, 72, 73, 74, 75, 76, 77, 78, 79, 80, 81, 82, 83, 84, 85, 86, 87, 88, 89, 90, 91, 92, 93, 94, 94, 95, 96, 97, 98, 99, 100, 101, 102, 103, 104, 105, 106, 107, 108, 109, 110, 111, 112, 113, 114, 115, 116, 117, 118, 119, 120, 121, 122, 123, 124, 125, -2, -2, -2, -2, -2, -2, -2, -2, -2, -2, -2, -2, -2, -2, -2, -2, -2, -2, -2, -2, -2, -2, -2, -2, -2, -2, -2, -2, -2, -2, -2, -2, -2, -1, -1, -1, -1, -1, -1, -1, -1, -1, -1, -1, -1, -1, -1, -1, -1, -1, -1, -1, -1, -1, -1, -1, -1, -1, -1, -1, -1, -1, -1, -1, -1, -1, -1, -1, -1, -1, -1, -1, -1, -1, -1, -1, -1, -1, -1, -1, -1, -1, -1, -1, -1, -1, -1, -1, -1, -2, -2, -2, -2, -2, -2, -2, -2, -2, -2, -2, -3, -3, -3, -3, -3, -3, -3, -3, -3, -3, -3, -3, -3, -3, -3, -3, -3, -3, -3, -3, -3, -3, -2, -2, -2, -1, -1, 0]
def b0 : Blo := ([64, 64], [20, 91, 123, 114], [-94, 93, 12, 24], [-23, 50, -125, -7], [54, 105, -82, -65], [64, 64], 8, 8, 8, 5, 3, [-34, 48, 124, 116], [45, 111, 19, -102], [74, 13, -88, 45], 8, 8, 5)
def f0 : Frm := (1, [64, 0, -64, 0], [0, 64, 0, -64], bend0)

def byteI (i : Nat) : Int := if i > 127 then (i : Int) - 256 else i
theorem bent_piece0 : tab (fun i => F_ref12_bent 2000000000 (2, byteI (16 * 0 + i))) 16 = tab (fun i => some (bend0.getD (16 * 0 + i) 0)) 16 := by kernel_rfl
theorem bent_piece1 : tab (fun i => F_ref12_bent 2000000000 (2, byteI (16 * 1 + i))) 16 = tab (fun i => some (bend0.getD (16 * 1 + i) 0)) 16 := by kernel_rfl
theorem bent_piece2 : tab (fun i => F_ref12_bent 2000000000 (2, byteI (16 * 2 + i))) 16 = tab (fun i => some (bend0.getD (16 * 2 + i) 0)) 16 := by kernel_rfl
theorem bent_piece3 : tab (fun i => F_ref12_bent 2000000000 (2, byteI (16 * 3 + i))) 16 = tab (fun i => some (bend0.getD (16 * 3 + i) 0)) 16 := by kernel_rfl
theorem bent_piece4 : tab (fun i => F_ref12_bent 2000000000 (2, byteI (16 * 4 + i))) 16 = tab (fun i => some (bend0.getD (16 * 4 + i) 0)) 16 := by kernel_rfl
theorem bent_piece5 : tab (fun i => F_ref12_bent 2000000000 (2, byteI (16 * 5 + i))) 16 = tab (fun i => some (bend0.getD (16 * 5 + i) 0)) 16 := by kernel_rfl
theorem bent_piece6 : tab (fun i => F_ref12_bent 2000000000 (2, byteI (16 * 6 + i))) 16 = tab (fun i => some (bend0.getD (16 * 6 + i) 0)) 16 := by kernel_rfl
theorem bent_piece7 : tab (fun i => F_ref12_bent 2000000000 (2, byteI (16 * 7 + i))) 16 = tab (fun i => some (bend0.getD (16 * 7 + i) 0)) 16 := by kernel_rfl
theorem bent_piece8 : tab (fun i => F_ref12_bent 2000000000 (2, byteI (16 * 8 + i))) 16 = tab (fun i => some (bend0.getD (16 * 8 + i) 0)) 16 := by kernel_rfl
theorem bent_piece9 : tab (fun i => F_ref12_bent 2000000000 (2, byteI (16 * 9 + i))) 16 = tab (fun i => some (bend0.getD (16 * 9 + i) 0)) 16 := by kernel_rfl
theorem bent_piece10 : tab (fun i => F_ref12_bent 2000000000 (2, byteI (16 * 10 + i))) 16 = tab (fun i => some (bend0.getD (16 * 10 + i) 0)) 16 := by kernel_rfl
theorem bent_piece11 : tab (fun i => F_ref12_bent 2000000000 (2, byteI (16 * 11 + i))) 16 = tab (fun i => some (bend0.getD (16 * 11 + i) 0)) 16 := by kernel_rfl
theorem bent_piece12 : tab (fun i => F_ref12_bent 2000000000 (2, byteI (16 * 12 + i))) 16 = tab (fun i => some (bend0.getD (16 * 12 + i) 0)) 16 := by kernel_rfl
theorem bent_piece13 : tab (fun i => F_ref12_bent 2000000000 (2, byteI (16 * 13 + i))) 16 = tab (fun i => some (bend0.getD (16 * 13 + i) 0)) 16 := by kernel_rfl
theorem bent_piece14 : tab (fun i => F_ref12_bent 2000000000 (2, byteI (16 * 14 + i))) 16 = tab (fun i => some (bend0.getD (16 * 14 + i) 0)) 16 := by kernel_rfl
theorem bent_piece15 : tab (fun i => F_ref12_bent 2000000000 (2, byteI (16 * 15 + i))) 16 = tab (fun i => some (bend0.getD (16 * 15 + i) 0)) 16 := by kernel_rfl
theorem bent_piece : ∀ j : Nat, j < 16 → tab (fun i => F_ref12_bent 2000000000 (2, byteI (16 * j + i))) 16 = tab (fun i => some (bend0.getD (16 * j + i) 0)) 16
  | 0, _ => bent_piece0
  | 1, _ => bent_piece1
  | 2, _ => bent_piece2
  | 3, _ => bent_piece3
  | 4, _ => bent_piece4
  | 5, _ => bent_piece5
  | 6, _ => bent_piece6
  | 7, _ => bent_piece7
  | 8, _ => bent_piece8
  | 9, _ => bent_piece9
  | 10, _ => bent_piece10
  | 11, _ => bent_piece11
  | 12, _ => bent_piece12
  | 13, _ => bent_piece13
  | 14, _ => bent_piece14
  | 15, _ => bent_piece15
  | n + 16, h => by omega

theorem bent_at {i : Nat} (h : i < 256) : F_ref12_bent 2000000000 (2, byteI i) = some (bend0.getD i 0) := by
  have h1 := bent_piece (i / 16) (by omega)
  have h2 := congrArg (fun l => l[i % 16]?) h1
  simp only [tab_get _ (show i % 16 < 16 by omega)] at h2
  rw [show 16 * (i / 16) + i % 16 = i by omega] at h2
  exact Option.some.inj h2

theorem bend0_tab : tab (fun i => bend0.getD i 0) 256 = bend0 := by decide +kernel

theorem small_bend : F_ref12_Table 2000000000 2 = some (bend0, 0) := by
  rw [F_ref12_Table_eq, brk_ite, brk_ite, if_neg (by decide), if_neg (by decide)]
  have hL := loop_st (L := fun k i s => L_ref12_Table_5 2000000000 k (2, s, i, ())) (len := 256) (r := (bend0, ())) (fun i => tab (fun i => bend0.getD i 0) i) ?_ ?_ 2000000000 (by omega)
  · rw [show tab (fun i => bend0.getD i 0) 0 = [] from rfl] at hL
    rw [hL]; rfl
  · intro k i hi
    show L_ref12_Table_5 2000000000 (k + 1) _ = _
    rw [L_ref12_Table_5_eq]
    simp only [brk_ite, decide_eq_true_eq]
    rw [if_pos (by omega), w64 (x := (i : Int) - 256) (by omega) (by omega)]
    have hb := bent_at hi
    have ha := app_tab (b := 1) (fun i => bend0.getD i 0) (i := i) (by unfold room; omega) (by unfold room; omega)
    unfold byteI at hb
    by_cases h : i > 127
    · rw [if_pos h] at hb
      rw [if_pos (by omega)]
      simp only [Option.bind_some]
      rw [hb]
      simp only [Option.bind_some]
      rw [ha, w64 (by omega) (by omega)]
      rfl
    · rw [if_neg h] at hb
      rw [if_neg (by omega)]
      simp only [Option.bind_some]
      rw [hb]
      simp only [Option.bind_some]
      rw [ha, w64 (by omega) (by omega)]
      rfl
  · intro k
    show L_ref12_Table_5 2000000000 (k + 1) _ = _
    rw [L_ref12_Table_5_eq, brk_ite, if_neg (by decide)]
    rw [bend0_tab]

end Go.Am.Pu
