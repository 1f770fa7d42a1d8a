import Derived.Test.YtfafklfpikjheaaGreatP1
set_option linter.unusedVariables false
set_option linter.unusedSimpArgs false
/- Plain laws: powers of two and roots (layer 2). -/
namespace Go.Am.Pu
open Go Go.Am

def expA (t : Int) : Int := 241400000 + 84941200 * t / 65536
def expB (t : Int) : Int := 747400624 + expA t * t / 65536
def expC (t : Int) : Int := 1073741824 + expB t * t / 65536
def expF (x : Int) : Int := if imin x 0 / 65536 ≤ -31 then 0 else expC (imin x 0 % 65536) / 2 ^ (-(imin x 0 / 65536)).toNat

theorem exp_ex : ∃ f : Int → Int, ∀ x, f x = expF x := ⟨_, fun _ => rfl⟩
/-- shut, so that nobody reckons it -/
noncomputable def expI : Int → Int := Classical.choose exp_ex
theorem expI_eq (x : Int) : expI x = expF x := Classical.choose_spec exp_ex x

theorem mul_t {a t m : Int} (ha : 0 ≤ a) (ha2 : a ≤ m) (ht : 0 ≤ t) (ht2 : t < 65536) : 0 ≤ a * t ∧ a * t ≤ m * 65535 := by
  have h1 := Int.mul_nonneg ha ht
  have h2 : a * t ≤ m * t := Int.mul_le_mul_of_nonneg_right ha2 ht
  have h3 : m * t ≤ m * 65535 := Int.mul_le_mul_of_nonneg_left (by omega) (by omega)
  omega

theorem exp_rng {t : Int} (ht : 0 ≤ t) (ht2 : t < 65536) : (0 ≤ 84941200 * t ∧ 84941200 * t ≤ 84941200 * 65535) ∧ (0 ≤ expA t ∧ expA t ≤ 326341200) ∧ (0 ≤ expA t * t ∧ expA t * t ≤ 326341200 * 65535) ∧ (0 ≤ expB t ∧ expB t ≤ 1073741824) ∧ (0 ≤ expB t * t ∧ expB t * t ≤ 1073741824 * 65535) ∧ (1073741824 ≤ expC t ∧ expC t ≤ 2147483648) := by
  have h1 := mul_t (a := 84941200) (m := 84941200) (by omega) (by omega) ht ht2
  have hA : 0 ≤ expA t ∧ expA t ≤ 326341200 := by unfold expA; omega
  have h2 := mul_t hA.1 hA.2 ht ht2
  have hB : 0 ≤ expB t ∧ expB t ≤ 1073741824 := by unfold expB; omega
  have h3 := mul_t hB.1 hB.2 ht ht2
  have hC : 1073741824 ≤ expC t ∧ expC t ≤ 2147483648 := by unfold expC; omega
  exact ⟨h1, hA, h2, hB, h3, hC⟩

theorem qt_nn {a : Int} (h : 0 ≤ a) (h2 : a ≤ 9223372036854775807) : qt .i64 a 65536 = some (a / 65536) := by
  rw [qt64 (by omega) (by rw [Int.tdiv_eq_ediv_of_nonneg h]; omega) (by rw [Int.tdiv_eq_ediv_of_nonneg h]; omega), Int.tdiv_eq_ediv_of_nonneg h]

theorem imin0 (x : Int) : imin x 0 ≤ 0 ∧ (x ≤ 0 → imin x 0 = x) ∧ (0 < x → imin x 0 = 0) := by
  unfold imin
  split <;> omega

theorem fixed_Exp2 {n : Nat} (hn : 100 ≤ n) {x : Int} (hx1 : -9223372036854775808 ≤ x) (hx2 : x ≤ 9223372036854775807) : F_fixed_Exp2 n x = some (expI x) := by
  have hm := imin0 x
  have hm2 : -9223372036854775808 ≤ imin x 0 := by by_cases h : x ≤ 0 <;> omega
  rw [F_fixed_Exp2_eq, fixed_Floor hm2 (by omega) (by omega) (by omega)]
  simp only [Option.bind_some, brk_ite, decide_eq_true_eq]
  rw [expI_eq]
  unfold expF
  split
  · rfl
  · rename_i hw
    obtain ⟨t, ht⟩ : ∃ t, t = imin x 0 % 65536 := ⟨_, rfl⟩
    obtain ⟨q, hq⟩ : ∃ q, q = imin x 0 / 65536 := ⟨_, rfl⟩
    rw [← ht, ← hq]
    rw [← hq] at hw
    have hq0 : q ≤ 0 := by omega
    obtain ⟨h1, hA, h2, hB, h3, hC⟩ := exp_rng (t := t) (by omega) (by omega)
    obtain ⟨k, rfl⟩ : ∃ k, n = k + 4 := ⟨n - 4, by omega⟩
    have c0 : ck (0 : Int) 4 = some 0 := rfl
    have d1 : IntKind.wrap .i64 ((0 : Int) + 1) = 1 := w64 (by decide) (by decide)
    have c1 : ck (IntKind.wrap .i64 ((0 : Int) + 1)) 4 = some 1 := by rw [d1]; rfl
    have d2 : IntKind.wrap .i64 ((1 : Int) + 1) = 2 := w64 (by decide) (by decide)
    have c2 : ck (IntKind.wrap .i64 ((1 : Int) + 1)) 4 = some 2 := by rw [d2]; rfl
    have d3 : IntKind.wrap .i64 ((2 : Int) + 1) = 3 := w64 (by decide) (by decide)
    have c3 : ck (IntKind.wrap .i64 ((2 : Int) + 1)) 4 = some 3 := by rw [d3]; rfl
    have hl : L_fixed_Exp2_8 (k + 4) (k + 4) (q, t, (), 84941200, 0, (84941200, 241400000, 747400624, 1073741824, ()), ()) = some (q, expC t, ()) := by
      rw [L_fixed_Exp2_8_eq, c1, d1]
      simp only [brk_ite, Option.bind_some]
      rw [if_pos (by decide)]
      simp only [List.getElem?_cons_succ, List.getElem?_cons_zero, Option.bind_some]
      rw [w64 (by omega) (by omega), qt_nn h1.1 (by omega)]
      simp only [Option.bind_some]
      rw [w64 (x := 241400000 + 84941200 * t / 65536) (by omega) (by omega), show (241400000 : Int) + 84941200 * t / 65536 = expA t from rfl]
      rw [L_fixed_Exp2_8_eq, c2, d2]
      simp only [brk_ite, Option.bind_some]
      rw [if_pos (by decide)]
      simp only [List.getElem?_cons_succ, List.getElem?_cons_zero, Option.bind_some]
      rw [w64 (x := expA t * t) (by omega) (by omega), qt_nn h2.1 (by omega)]
      simp only [Option.bind_some]
      rw [w64 (x := 747400624 + expA t * t / 65536) (by omega) (by omega), show (747400624 : Int) + expA t * t / 65536 = expB t from rfl]
      rw [L_fixed_Exp2_8_eq, c3, d3]
      simp only [brk_ite, Option.bind_some]
      rw [if_pos (by decide)]
      simp only [List.getElem?_cons_succ, List.getElem?_cons_zero, Option.bind_some]
      rw [w64 (x := expB t * t) (by omega) (by omega), qt_nn h3.1 (by omega)]
      simp only [Option.bind_some]
      rw [w64 (x := 1073741824 + expB t * t / 65536) (by omega) (by omega), show (1073741824 : Int) + expB t * t / 65536 = expC t from rfl]
      rw [L_fixed_Exp2_8_eq]
      simp only [brk_ite]
      rw [if_neg (by decide)]
    rw [c0]
    simp only [Option.bind_some, List.getElem?_cons_zero]
    rw [hl]
    simp only [Option.bind_some]
    rw [w64 (by omega) (by omega)]
    unfold shro
    rw [if_neg (by omega), show min (0 - q).toNat (IntKind.bits .i64) = (-q).toNat by show min _ 64 = _; omega]
    simp only [Option.bind_some]
    have hp := pow_rng (s := (-q).toNat) (by omega)
    rw [Int.fdiv_eq_ediv_of_nonneg _ (by omega)]

theorem ref02_Exp2_loop {n : Nat} {q : Int} : ∀ (k i : Nat) (c : Int), 0 ≤ c → c ≤ 9223372036854775807 → (i : Int) ≤ q → q ≤ 100 → q - i < k → L_ref02_Exp2_11 n k (q, c, (i : Int), ()) = some (c / 2 ^ (q - i).toNat, ())
  | 0, i, c, _, _, h1, _, h2 => by omega
  | k + 1, i, c, hc, hc2, h1, hq, h2 => by
    rw [L_ref02_Exp2_11_eq]
    simp only [brk_ite, decide_eq_true_eq]
    split
    · have e : qt .i64 c 2 = some (c / 2) := by
        rw [qt64 (by omega) (by rw [Int.tdiv_eq_ediv_of_nonneg hc]; omega) (by rw [Int.tdiv_eq_ediv_of_nonneg hc]; omega), Int.tdiv_eq_ediv_of_nonneg hc]
      rw [e]
      simp only [Option.bind_some]
      rw [w64 (by omega) (by omega)]
      have := ref02_Exp2_loop (n := n) (q := q) k (i + 1) (c / 2) (by omega) (by omega) (by omega) hq (by omega)
      rw [show ((i + 1 : Nat) : Int) = (i : Int) + 1 from rfl] at this
      rw [this, Int.ediv_ediv_of_nonneg (by omega)]
      rw [show (q - (i : Int)).toNat = (q - ((i : Int) + 1)).toNat + 1 by omega, Int.pow_succ, Int.mul_comm]
    · rw [show (q - (i : Int)).toNat = 0 by omega]
      simp

theorem ref02_Exp2 {n : Nat} (hn : 200 ≤ n) {x : Int} (hx1 : -9223372036854775808 ≤ x) (hx2 : x ≤ 9223372036854775807) : F_ref02_Exp2 n x = some (expI x) := by
  have hm := imin0 x
  have hm2 : -9223372036854775808 ≤ imin x 0 := by by_cases h : x ≤ 0 <;> omega
  rw [F_ref02_Exp2_eq]
  have e0 : brk (decide (x > 0)) (some ((0 : Int), ())) (some (x, ())) = some (imin x 0, ()) := by
    rw [brk_ite]
    simp only [decide_eq_true_eq]
    split
    · rw [hm.2.2 (by omega)]
    · rw [hm.2.1 (by omega)]
  rw [e0]
  simp only [Option.bind_some]
  rw [ref02_Floor hm2 (by omega) (by omega) (by omega)]
  simp only [Option.bind_some]
  rw [expI_eq]
  unfold expF
  obtain ⟨t, ht⟩ : ∃ t, t = imin x 0 % 65536 := ⟨_, rfl⟩
  obtain ⟨q, hq⟩ : ∃ q, q = imin x 0 / 65536 := ⟨_, rfl⟩
  rw [← ht, ← hq]
  have hq0 : q ≤ 0 := by omega
  obtain ⟨h1, hA, h2, hB, h3, hC⟩ := exp_rng (t := t) (by omega) (by omega)
  rw [w64 (x := 84941200 * t) (by omega) (by omega), qt_nn h1.1 (by omega)]
  simp only [Option.bind_some]
  rw [w64 (x := 241400000 + 84941200 * t / 65536) (by omega) (by omega), show (241400000 : Int) + 84941200 * t / 65536 = expA t from rfl]
  rw [w64 (x := expA t * t) (by omega) (by omega), qt_nn h2.1 (by omega)]
  simp only [Option.bind_some]
  rw [w64 (x := 747400624 + expA t * t / 65536) (by omega) (by omega), show (747400624 : Int) + expA t * t / 65536 = expB t from rfl]
  rw [w64 (x := expB t * t) (by omega) (by omega), qt_nn h3.1 (by omega)]
  simp only [Option.bind_some]
  rw [w64 (x := 1073741824 + expB t * t / 65536) (by omega) (by omega), show (1073741824 : Int) + expB t * t / 65536 = expC t from rfl]
  rw [w64 (x := 0 - q) (by omega) (by omega)]
  simp only [brk_ite, decide_eq_true_eq]
  split
  · rw [if_pos (by omega)]
  · rw [if_neg (by omega)]
    have := ref02_Exp2_loop (n := n) (q := 0 - q) n 0 (expC t) (by omega) (by omega) (by omega) (by omega) (by omega)
    rw [show ((0 : Nat) : Int) = 0 from rfl] at this
    rw [this]
    simp only [Option.bind_some]
    rw [show (0 - q - 0).toNat = (-q).toNat by omega]

theorem expI_rng (x : Int) : 0 ≤ expI x ∧ expI x ≤ 1073741824 := by
  have hm := imin0 x
  rw [expI_eq]
  unfold expF
  split
  · omega
  · obtain ⟨h1, hA, h2, hB, h3, hC⟩ := exp_rng (t := imin x 0 % 65536) (by omega) (by omega)
    by_cases h0 : imin x 0 / 65536 = 0
    · have : imin x 0 = 0 := by omega
      rw [this]; decide
    · obtain ⟨s, hs⟩ : ∃ s, (-(imin x 0 / 65536)).toNat = s + 1 := ⟨(-(imin x 0 / 65536)).toNat - 1, by omega⟩
      rw [hs, Int.pow_succ, Int.mul_comm, ← Int.ediv_ediv_of_nonneg (by omega)]
      have hp := pow_rng (s := s) (by omega)
      have := (ediv_rng (x := expC (imin x 0 % 65536) / 2) hp.1).1 (by omega)
      omega
theorem expI_zero : expI 0 = 1073741824 := by rw [expI_eq]; decide

end Go.Am.Pu
