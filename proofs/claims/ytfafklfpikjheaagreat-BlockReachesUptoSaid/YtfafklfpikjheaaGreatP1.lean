import Derived.Test.YtfafklfpikjheaaGreatA1
import Derived.Test.YtfafklfpikjheaaGreatS0
import Derived.Test.YtfafklfpikjheaaGreatS1
import Derived.Test.YtfafklfpikjheaaGreatS2
import Derived.Test.YtfafklfpikjheaaGreatS3
import Derived.Test.YtfafklfpikjheaaGreatS4
import Derived.Test.YtfafklfpikjheaaGreatS5
import Derived.Test.YtfafklfpikjheaaGreatS6
import Derived.Test.YtfafklfpikjheaaGreatS7
set_option linter.unusedVariables false
set_option linter.unusedSimpArgs false
/- Plain laws: the words of the equations. -/
namespace Go.Am.Pu
open Go Go.Am

theorem w64 {x : Int} (h1 : -9223372036854775808 ≤ x) (h2 : x ≤ 9223372036854775807) : IntKind.wrap .i64 x = x := by
  simp only [IntKind.wrap, IntKind.bits, IntKind.signed, Bool.true_and, decide_eq_true_eq, ge_iff_le]
  split <;> omega
theorem w8 {x : Int} (h1 : -128 ≤ x) (h2 : x ≤ 127) : IntKind.wrap .i8 x = x := by
  simp only [IntKind.wrap, IntKind.bits, IntKind.signed, Bool.true_and, decide_eq_true_eq, ge_iff_le]
  split <;> omega
theorem w64_rng (x : Int) : -9223372036854775808 ≤ IntKind.wrap .i64 x ∧ IntKind.wrap .i64 x ≤ 9223372036854775807 := by
  simp only [IntKind.wrap, IntKind.bits, IntKind.signed, Bool.true_and, decide_eq_true_eq, ge_iff_le]
  split <;> omega

theorem brk_ite {R : Type} (b : Bool) (x y : Option R) : brk b x y = if b = true then x else y := by cases b <;> rfl

theorem ediv_rng {x d : Int} (hd : 1 ≤ d) : (0 ≤ x → 0 ≤ x / d ∧ x / d ≤ x) ∧ (x < 0 → x ≤ x / d ∧ x / d < 0) := by
  refine ⟨fun h => ⟨Int.ediv_nonneg h (by omega), Int.ediv_le_self _ h⟩, fun h => ⟨?_, Int.ediv_neg_of_neg_of_pos h (by omega)⟩⟩
  refine Int.le_ediv_of_mul_le (by omega) ?_
  have := Int.mul_le_mul_of_nonpos_left (show x ≤ 0 by omega) hd
  omega

theorem tdiv_tmod {x d : Int} (hd : 1 ≤ d) : (x.tmod d < 0 → x / d = x.tdiv d - 1 ∧ x % d = x.tmod d + d) ∧ (0 ≤ x.tmod d → x / d = x.tdiv d ∧ x % d = x.tmod d) := by
  have h1 := Int.mul_tdiv_add_tmod x d
  have h2 : x.tmod d < d := Int.tmod_lt_of_pos x (by omega)
  have h3 : -d < x.tmod d := by
    have := Int.tmod_lt_of_pos (-x) (show 0 < d by omega)
    rw [Int.neg_tmod] at this
    omega
  refine ⟨fun h => ?_, fun h => ?_⟩
  · refine (Int.ediv_emod_unique (by omega)).2 ⟨?_, by omega, by omega⟩
    rw [Int.mul_sub]
    omega
  · exact (Int.ediv_emod_unique (by omega)).2 ⟨by omega, h, h2⟩

theorem qt64 {a b : Int} (hb : b ≠ 0) (h1 : -9223372036854775808 ≤ a.tdiv b) (h2 : a.tdiv b ≤ 9223372036854775807) : qt .i64 a b = some (a.tdiv b) := by
  unfold qt
  rw [if_neg hb, w64 h1 h2]
theorem rm_some {a b : Int} (hb : b ≠ 0) : rm a b = some (a.tmod b) := by unfold rm; rw [if_neg hb]
theorem tdiv_rng {x d : Int} (hd : 1 ≤ d) : (0 ≤ x → 0 ≤ x.tdiv d ∧ x.tdiv d ≤ x) ∧ (x ≤ 0 → x ≤ x.tdiv d ∧ x.tdiv d ≤ 0) := by
  refine ⟨fun h => ?_, fun h => ?_⟩
  · rw [Int.tdiv_eq_ediv_of_nonneg h]; exact (ediv_rng hd).1 h
  · have := (ediv_rng (x := -x) hd).1 (by omega)
    rw [← Int.tdiv_eq_ediv_of_nonneg (show 0 ≤ -x by omega), Int.neg_tdiv] at this
    omega

theorem idx_some {α : Type} {l : List α} {i : Nat} (h : i < l.length) : idx l (i : Int) = some l[i] := by
  unfold idx
  rw [if_pos (by omega)]
  simp [h]
theorem ck_some {i n : Nat} (h : i < n) : ck (i : Int) n = some i := by
  unfold ck
  rw [if_pos ⟨by omega, by omega⟩]
  simp

theorem and1 (q : Int) : bito .and .i64 q 1 = q % 2 := by
  unfold bito
  have h : (BitVec.ofInt (IntKind.bits .i64) q &&& BitVec.ofInt (IntKind.bits .i64) 1).toNat = (q % 2).toNat := by
    show (BitVec.ofInt 64 q &&& BitVec.ofInt 64 1).toNat = _
    rw [BitVec.toNat_and]
    show (BitVec.ofInt 64 q).toNat &&& 1 = _
    rw [Nat.and_one_is_mod, BitVec.toNat_ofInt]
    omega
  show IntKind.wrap .i64 (((BitVec.ofInt (IntKind.bits .i64) q &&& BitVec.ofInt (IntKind.bits .i64) 1).toNat : Nat) : Int) = _
  rw [h]
  rw [w64 (by omega) (by omega)]
  omega

end Go.Am.Pu

/- Plain laws: fixed (layer 2), the program's and the document's. -/
namespace Go.Am.Pu
open Go Go.Am

/-- the nearest quotient -/
def nearI (x d : Int) : Int := if x % d > d - x % d ∨ (x % d = d - x % d ∧ (x / d) % 2 = 1) then x / d + 1 else x / d

theorem floor_tail {x d : Int} (hx1 : -9223372036854775808 ≤ x) (hx2 : x ≤ 9223372036854775807) (hd : 1 ≤ d) (hd2 : d ≤ 9223372036854775807) :
    (((qt IntKind.i64 x d)).bind fun v1 =>
      ((rm x d)).bind fun v2 =>
      (brk (decide (v2 < (0 : Int)))
          (some ((IntKind.wrap IntKind.i64 (v1 - (1 : Int))), ((IntKind.wrap IntKind.i64 (v2 + d)), ())))
          (some (v1, (v2, ())))).bind fun v3 =>
      some (v3.1, (v3.2.1, (0 : Int)))) = some (x / d, x % d, 0) := by
  have hq := tdiv_rng (x := x) hd
  have he := ediv_rng (x := x) hd
  have hm := tdiv_tmod (x := x) hd
  have h0 := Int.emod_nonneg x (show d ≠ 0 by omega)
  have h1 := Int.emod_lt_of_pos x (show 0 < d by omega)
  have hq2 : -9223372036854775808 ≤ x.tdiv d ∧ x.tdiv d ≤ 9223372036854775807 := by omega
  rw [qt64 (by omega) hq2.1 hq2.2, rm_some (by omega)]
  simp only [Option.bind_some, brk_ite, decide_eq_true_eq]
  split
  · rename_i h
    obtain ⟨e1, e2⟩ := hm.1 h
    rw [← e1, ← e2, w64 (by omega) (by omega), w64 (by omega) (by omega)]
    rfl
  · rename_i h
    obtain ⟨e1, e2⟩ := hm.2 (by omega)
    rw [← e1, ← e2]
    rfl

theorem fixed_Floor {n : Nat} {x d : Int} (hx1 : -9223372036854775808 ≤ x) (hx2 : x ≤ 9223372036854775807) (hd : 1 ≤ d) (hd2 : d ≤ 9223372036854775807) : F_fixed_Floor n (x, d) = some (x / d, x % d, 0) := by
  rw [F_fixed_Floor_eq, brk_ite, if_neg (by simp; omega)]
  exact floor_tail hx1 hx2 hd hd2
theorem ref02_Floor {n : Nat} {x d : Int} (hx1 : -9223372036854775808 ≤ x) (hx2 : x ≤ 9223372036854775807) (hd : 1 ≤ d) (hd2 : d ≤ 9223372036854775807) : F_ref02_Floor n (x, d) = some (x / d, x % d, 0) := by
  rw [F_ref02_Floor_eq, brk_ite, if_neg (by simp; omega)]
  exact floor_tail hx1 hx2 hd hd2

theorem near_up {x d : Int} (hx1 : -9223372036854775808 ≤ x) (hx2 : x ≤ 9223372036854775807) (hd : 1 ≤ d) (h : x % d ≥ d - x % d) : -9223372036854775808 ≤ x / d + 1 ∧ x / d + 1 ≤ 9223372036854775807 := by
  have he := ediv_rng (x := x) hd
  have h1 := Int.emod_lt_of_pos x (show 0 < d by omega)
  by_cases h2 : d = 1
  · subst h2; omega
  · have := (ediv_rng (x := x) hd)
    have hx := Int.mul_ediv_add_emod x d
    by_cases hx0 : 0 ≤ x
    · have h3 := (he.1 hx0).1
      have h4 : 2 * (x / d) ≤ d * (x / d) := Int.mul_le_mul_of_nonneg_right (by omega) h3
      omega
    · omega

theorem fixed_Near {n : Nat} {x d : Int} (hx1 : -9223372036854775808 ≤ x) (hx2 : x ≤ 9223372036854775807) (hd : 1 ≤ d) (hd2 : d ≤ 9223372036854775807) : F_fixed_Near n (x, d) = some (nearI x d, 0) := by
  have h0 := Int.emod_nonneg x (show d ≠ 0 by omega)
  have h1 := Int.emod_lt_of_pos x (show 0 < d by omega)
  have hu := near_up hx1 hx2 hd
  rw [F_fixed_Near_eq, fixed_Floor hx1 hx2 hd hd2]
  simp only [Option.bind_some, brk_ite, and1, decide_eq_true_eq, beq_iff_eq, bne_self_eq_false, Bool.false_eq_true, if_false]
  rw [w64 (x := d - x % d) (by omega) (by omega)]
  unfold nearI
  split
  · rename_i h
    rw [w64 (by omega) (by omega), if_pos (.inl h)]
  · split
    · rename_i h
      split
      · rename_i h3
        rw [w64 (by omega) (by omega), if_pos (.inr ⟨h, h3⟩)]
        rfl
      · rename_i h3
        rw [if_neg (by omega)]
        rfl
    · rw [if_neg (by omega)]

theorem tmod2 (q : Int) : ¬ q.tmod 2 = 0 ↔ q % 2 = 1 := by
  by_cases h : 0 ≤ q
  · rw [Int.tmod_eq_emod_of_nonneg h]; omega
  · have h1 := Int.tmod_eq_emod_of_nonneg (a := -q) (b := 2) (by omega)
    rw [Int.neg_tmod] at h1
    have h2 : q.tmod 2 = - ((-q) % 2) := by rw [← h1]; exact (Int.neg_neg _).symm
    rw [h2]; omega

theorem ref02_Near {n : Nat} {x d : Int} (hx1 : -9223372036854775808 ≤ x) (hx2 : x ≤ 9223372036854775807) (hd : 1 ≤ d) (hd2 : d ≤ 9223372036854775807) : F_ref02_Near n (x, d) = some (nearI x d, 0) := by
  have h0 := Int.emod_nonneg x (show d ≠ 0 by omega)
  have h1 := Int.emod_lt_of_pos x (show 0 < d by omega)
  have hu := near_up hx1 hx2 hd
  rw [F_ref02_Near_eq, ref02_Floor hx1 hx2 hd hd2]
  simp only [Option.bind_some, brk_ite, decide_eq_true_eq, beq_iff_eq, bne_self_eq_false, Bool.false_eq_true, if_false]
  rw [w64 (x := d - x % d) (by omega) (by omega), rm_some (by omega)]
  have htm := tmod2 (x / d)
  simp only [Option.bind_some, bne_iff_ne, ne_eq]
  unfold nearI
  split
  · rename_i h
    rw [w64 (by omega) (by omega), if_pos (.inl h)]
  · split
    · rename_i h
      split
      · rename_i h3
        rw [w64 (by omega) (by omega), if_pos (.inr ⟨h, htm.1 h3⟩)]
        rfl
      · rename_i h3
        have h4 : ¬ (x / d) % 2 = 1 := fun h => h3 (htm.2 h)
        rw [if_neg (by omega)]
        rfl
    · rw [if_neg (by omega)]

/-- the nearest whole number to a number shifted down; the error -/
def roundI (x s : Int) : Int × Int := if s < 0 ∨ s > 62 then (0, 20) else (nearI x (2 ^ s.toNat), 0)

theorem pow_rng {s : Nat} (h : s ≤ 62) : (1 : Int) ≤ 2 ^ s ∧ (2 : Int) ^ s ≤ 4611686018427387904 := by
  have hp : (0 : Nat) < 2 ^ s := Nat.two_pow_pos s
  refine ⟨by have h2 : ((1 : Nat) : Int) ≤ ((2 ^ s : Nat) : Int) := by exact_mod_cast hp
             simpa using h2, ?_⟩
  have : (2 : Nat) ^ s ≤ 2 ^ 62 := Nat.pow_le_pow_right (by omega) h
  have h2 : ((2 ^ s : Nat) : Int) ≤ ((2 ^ 62 : Nat) : Int) := by exact_mod_cast this
  simpa using h2

theorem fixed_Round {n : Nat} {x s : Int} (hx1 : -9223372036854775808 ≤ x) (hx2 : x ≤ 9223372036854775807) : F_fixed_Round n (x, s) = some (roundI x s) := by
  rw [F_fixed_Round_eq]
  simp only [brk_ite, decide_eq_true_eq]
  unfold roundI
  split
  · rw [if_pos (by omega)]
  · split
    · rw [if_pos (by omega)]
    · rw [if_neg (by omega)]
      have hp := pow_rng (s := s.toNat) (by omega)
      have hs : shlo .i64 1 s = some (2 ^ s.toNat) := by
        unfold shlo
        rw [if_neg (by omega)]
        have : min s.toNat (IntKind.bits .i64) = s.toNat := by show min s.toNat 64 = _; omega
        rw [this, Int.one_mul, w64 (by omega) (by omega)]
      rw [hs]
      simp only [Option.bind_some]
      rw [fixed_Near hx1 hx2 hp.1 (by omega)]
      rfl

theorem ref02_Round_loop {n : Nat} {x s : Int} (hs : s ≤ 62) : ∀ (k i : Nat), (i : Int) ≤ s → s - i < k → L_ref02_Round_5 n k (x, s, 2 ^ i, (i : Int), ()) = some (x, 2 ^ s.toNat, ())
  | 0, i, h1, h2 => by omega
  | k + 1, i, h1, h2 => by
    rw [L_ref02_Round_5_eq]
    simp only [brk_ite, decide_eq_true_eq]
    have hp := pow_rng (s := i) (by omega)
    split
    · have hp2 := pow_rng (s := i + 1) (by omega)
      have e : (2 : Int) ^ i * 2 = 2 ^ (i + 1) := by rw [Int.pow_succ]
      rw [w64 (x := (i : Int) + 1) (by omega) (by omega), e, w64 (by omega) (by omega)]
      exact ref02_Round_loop hs k (i + 1) (by omega) (by omega)
    · have : i = s.toNat := by omega
      rw [this]

theorem ref02_Round {n : Nat} (hn : 100 ≤ n) {x s : Int} (hx1 : -9223372036854775808 ≤ x) (hx2 : x ≤ 9223372036854775807) : F_ref02_Round n (x, s) = some (roundI x s) := by
  rw [F_ref02_Round_eq]
  simp only [brk_ite, decide_eq_true_eq]
  unfold roundI
  split
  · rw [if_pos (by omega)]
  · split
    · rw [if_pos (by omega)]
    · rw [if_neg (by omega)]
      have hp := pow_rng (s := s.toNat) (by omega)
      have hl := ref02_Round_loop (n := n) (x := x) (s := s) (by omega) n 0 (by omega) (by omega)
      have e : (2 : Int) ^ 0 = 1 := rfl
      rw [e] at hl
      rw [show ((0 : Nat) : Int) = 0 from rfl] at hl
      rw [hl]
      simp only [Option.bind_some]
      rw [ref02_Near hx1 hx2 hp.1 (by omega)]
      rfl

/-- brought to 8 bits -/
def narrowI (x : Int) : Int := if x < -127 then -127 else if x > 127 then 127 else x
theorem narrowI_rng (x : Int) : -127 ≤ narrowI x ∧ narrowI x ≤ 127 := by
  unfold narrowI
  split
  · omega
  · split <;> omega

theorem fixed_Narrow {n : Nat} {x : Int} : F_fixed_Narrow n x = some (narrowI x) := by
  have h := narrowI_rng x
  rw [F_fixed_Narrow_eq, F_fixed_Clamp_eq]
  simp only [brk_ite, decide_eq_true_eq]
  unfold narrowI at h ⊢
  split
  · rfl
  · split
    · rfl
    · rename_i h1 h2
      show some (IntKind.wrap .i8 x) = _
      rw [w8 (by omega) (by omega)]
theorem ref02_Narrow {n : Nat} {x : Int} : F_ref02_Narrow n x = some (narrowI x) := by
  have h := narrowI_rng x
  rw [F_ref02_Narrow_eq, F_ref02_Clamp_eq]
  simp only [brk_ite, decide_eq_true_eq]
  unfold narrowI at h ⊢
  split
  · rfl
  · split
    · rfl
    · rename_i h1 h2
      show some (IntKind.wrap .i8 x) = _
      rw [w8 (by omega) (by omega)]

/-- a sum; can it be? -/
def addI (a b : Int) : Int × Bool := if -9223372036854775808 ≤ a + b ∧ a + b ≤ 9223372036854775807 then (a + b, true) else (0, false)

theorem w64_hi {x : Int} (h1 : 9223372036854775807 < x) (h2 : x ≤ 18446744073709551614) : IntKind.wrap .i64 x = x - 18446744073709551616 := by
  simp only [IntKind.wrap, IntKind.bits, IntKind.signed, Bool.true_and, decide_eq_true_eq, ge_iff_le]
  split <;> omega
theorem w64_lo {x : Int} (h1 : x < -9223372036854775808) (h2 : -18446744073709551616 ≤ x) : IntKind.wrap .i64 x = x + 18446744073709551616 := by
  simp only [IntKind.wrap, IntKind.bits, IntKind.signed, Bool.true_and, decide_eq_true_eq, ge_iff_le]
  split <;> omega

theorem fixed_Add {n : Nat} {a b : Int} (ha1 : -9223372036854775808 ≤ a) (ha2 : a ≤ 9223372036854775807) (hb1 : -9223372036854775808 ≤ b) (hb2 : b ≤ 9223372036854775807) : F_fixed_Add n (a, b) = some (addI a b) := by
  rw [F_fixed_Add_eq]
  unfold addI
  by_cases hi : 9223372036854775807 < a + b
  · rw [w64_hi hi (by omega), if_neg (by omega)]
    have h1 : decide (a < 0) = false := by simp; omega
    have h2 : decide (b < 0) = false := by simp; omega
    have h3 : decide (a + b - 18446744073709551616 < 0) = true := by simp; omega
    rw [h1, h2, h3]; rfl
  · by_cases lo : a + b < -9223372036854775808
    · rw [w64_lo lo (by omega), if_neg (by omega)]
      have h1 : decide (a < 0) = true := by simp; omega
      have h2 : decide (b < 0) = true := by simp; omega
      have h3 : decide (a + b + 18446744073709551616 < 0) = false := by simp; omega
      rw [h1, h2, h3]; rfl
    · rw [w64 (by omega) (by omega), if_pos (by omega)]
      simp only [brk_ite, beq_iff_eq, decide_eq_decide, Bool.not_eq_true']
      split
      · split
        · rename_i h1 h2
          simp only [beq_eq_false_iff_ne, ne_eq, decide_eq_decide] at h2
          omega
        · rfl
      · rfl

theorem ref02_Add {n : Nat} {a b : Int} (ha1 : -9223372036854775808 ≤ a) (ha2 : a ≤ 9223372036854775807) (hb1 : -9223372036854775808 ≤ b) (hb2 : b ≤ 9223372036854775807) : F_ref02_Add n (a, b) = some (addI a b) := by
  rw [F_ref02_Add_eq]
  unfold addI
  simp only [brk_ite, decide_eq_true_eq]
  split
  · rw [w64 (x := 9223372036854775807 - b) (by omega) (by omega), if_neg (show ¬ b < 0 by omega)]
    split
    · rw [if_neg (by omega)]
    · rw [if_pos (by omega), w64 (by omega) (by omega)]
  · split
    · rw [w64 (x := -9223372036854775808 - b) (by omega) (by omega)]
      split
      · rw [if_neg (by omega)]
      · rw [if_pos (by omega), w64 (by omega) (by omega)]
    · rw [if_pos (by omega), w64 (by omega) (by omega)]

end Go.Am.Pu
