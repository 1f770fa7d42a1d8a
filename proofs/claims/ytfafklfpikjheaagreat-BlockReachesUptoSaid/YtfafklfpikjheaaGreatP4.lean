import Derived.Test.YtfafklfpikjheaaGreatP3
set_option linter.unusedVariables false
set_option linter.unusedSimpArgs false
/- Plain laws: roots, rows of one size (layer 9). -/
namespace Go.Am.Pu
open Go Go.Am

def sqStep (x : Int) (r : Nat) (j : Nat) : Nat := if r + 2 ^ j ≤ 3037000499 ∧ ((r + 2 ^ j : Nat) : Int) * ((r + 2 ^ j : Nat) : Int) ≤ x then r + 2 ^ j else r
def sq (x : Int) : Nat → Nat → Nat
  | 0, r => r
  | j + 1, r => sq x j (sqStep x r j)
def bitOf : Nat → Nat
  | 0 => 0
  | j + 1 => 2 ^ j

theorem bitOf_half (m : Nat) : 2 ^ m / 2 = bitOf m := by
  cases m with
  | zero => rfl
  | succ m => show 2 ^ (m + 1) / 2 = 2 ^ m; rw [Nat.pow_succ]; omega

theorem sq_inv {x : Int} {m r a : Nat} (hr : r = a * 2 ^ (m + 1)) (hb : (a + 1) * 2 ^ (m + 1) ≤ 4294967296) : ∃ a', sqStep x r m = a' * 2 ^ m ∧ (a' + 1) * 2 ^ m ≤ 4294967296 := by
  unfold sqStep
  rw [Nat.pow_succ, ← Nat.mul_assoc] at hb hr
  rw [Nat.add_mul] at hb
  split
  · refine ⟨2 * a + 1, ?_, ?_⟩
    · rw [hr, Nat.add_mul, Nat.mul_assoc 2 a]; omega
    · rw [Nat.add_mul, Nat.add_mul, Nat.mul_assoc 2 a]; omega
  · refine ⟨2 * a, ?_, ?_⟩
    · rw [hr, Nat.mul_assoc 2 a]; omega
    · rw [Nat.add_mul, Nat.mul_assoc 2 a]; omega

theorem sq_max {s : Nat} : s ≤ 3037000499 ↔ s * s ≤ 9223372036854775807 := by
  constructor
  · intro h
    have := Nat.mul_le_mul h h
    omega
  · intro h
    by_cases h2 : s ≤ 3037000499
    · exact h2
    · have := Nat.mul_le_mul (show 3037000500 ≤ s by omega) (show 3037000500 ≤ s by omega)
      omega

theorem pow32 {m : Nat} {a : Nat} (hb : (a + 1) * 2 ^ m ≤ 4294967296) : 2 ^ m ≤ 4294967296 ∧ 0 < 2 ^ m := by
  refine ⟨?_, Nat.two_pow_pos m⟩
  have := Nat.le_mul_of_pos_left (2 ^ m) (show 0 < a + 1 by omega)
  omega

theorem fixed_Sqrt_loop {n : Nat} {x : Int} : ∀ (m k r a : Nat), r = a * 2 ^ m → (a + 1) * 2 ^ m ≤ 4294967296 → m < k → L_fixed_Sqrt_5 n k (x, (r : Int), (bitOf m : Int), ()) = some (((sq x m r : Nat) : Int), ())
  | 0, k, r, a, h1, h2, h3 => by
    obtain ⟨k, rfl⟩ : ∃ i, k = i + 1 := ⟨k - 1, by omega⟩
    rw [L_fixed_Sqrt_5_eq, brk_ite, if_neg (by simp [bitOf])]
    rfl
  | m + 1, k, r, a, h1, h2, h3 => by
    obtain ⟨k, rfl⟩ : ∃ i, k = i + 1 := ⟨k - 1, by omega⟩
    have hp := pow32 h2
    obtain ⟨a', h4, h5⟩ := sq_inv (x := x) h1 h2
    have hp2 := pow32 h5
    rw [L_fixed_Sqrt_5_eq]
    simp only [brk_ite, decide_eq_true_eq]
    rw [show bitOf (m + 1) = 2 ^ m from rfl, if_pos (by omega)]
    have ho : bito .or .i64 (r : Int) ((2 ^ m : Nat) : Int) = ((r + 2 ^ m : Nat) : Int) := by
      rw [h1]; exact or_add (by omega)
    rw [ho]
    obtain ⟨s, hs⟩ : ∃ s, s = r + 2 ^ m := ⟨_, rfl⟩
    have hs32 : s < 4294967296 := by
      rw [hs, h1]
      rw [Nat.add_mul] at h2
      have : 2 ^ m < 2 ^ (m + 1) := Nat.pow_lt_pow_right (by omega) (by omega)
      omega
    rw [← hs]
    obtain ⟨d, hd⟩ : ∃ d, d = 9223372036854775807 / s := ⟨_, rfl⟩
    have hle : d ≤ 9223372036854775807 := by rw [hd]; exact Nat.div_le_self _ _
    have hq : qt .i64 9223372036854775807 (s : Int) = some (d : Int) := by
      have e : (9223372036854775807 : Int).tdiv (s : Int) = (d : Int) := by
        rw [Int.tdiv_eq_ediv_of_nonneg (by omega), hd]; rfl
      rw [qt64 (by omega) (by rw [e]; omega) (by rw [e]; omega), e]
    rw [hq]
    simp only [Option.bind_some]
    have hsh : shro .i64 ((2 ^ m : Nat) : Int) 1 = some ((bitOf m : Nat) : Int) := by
      unfold shro
      rw [if_neg (by omega)]
      show some (((2 ^ m : Nat) : Int).fdiv 2) = _
      rw [Int.fdiv_eq_ediv_of_nonneg _ (by omega), ← bitOf_half]
      rfl
    have hss : ((s : Int) ≤ (d : Int)) ↔ s ≤ 3037000499 := by
      rw [sq_max, ← Nat.le_div_iff_mul_le (by omega), ← hd]
      omega
    have hsq : sqStep x r m = if s ≤ 3037000499 ∧ ((s : Nat) : Int) * ((s : Nat) : Int) ≤ x then s else r := by unfold sqStep; rw [← hs]
    by_cases c1 : s ≤ 3037000499
    · rw [if_pos (hss.2 c1)]
      have hmm := sq_max.1 c1
      have hmi : ((s : Nat) : Int) * ((s : Nat) : Int) = ((s * s : Nat) : Int) := by simp
      rw [w64 (by rw [hmi]; omega) (by rw [hmi]; omega)]
      by_cases c2 : ((s : Nat) : Int) * ((s : Nat) : Int) ≤ x
      · rw [if_pos c2]
        simp only [Option.bind_some]
        rw [hsh]
        simp only [Option.bind_some]
        rw [if_pos ⟨c1, c2⟩] at hsq
        have := fixed_Sqrt_loop (n := n) (x := x) m k s a' (by rw [← h4, hsq]) h5 (by omega)
        rw [this, show sq x (m + 1) r = sq x m (sqStep x r m) from rfl, hsq]
      · rw [if_neg c2]
        simp only [Option.bind_some]
        rw [hsh]
        simp only [Option.bind_some]
        rw [if_neg (fun h => c2 h.2)] at hsq
        have := fixed_Sqrt_loop (n := n) (x := x) m k r a' (by rw [← h4, hsq]) h5 (by omega)
        rw [this, show sq x (m + 1) r = sq x m (sqStep x r m) from rfl, hsq]
    · rw [if_neg (fun h => c1 (hss.1 h))]
      rw [hsh]
      simp only [Option.bind_some]
      rw [if_neg (fun h => c1 h.1)] at hsq
      have := fixed_Sqrt_loop (n := n) (x := x) m k r a' (by rw [← h4, hsq]) h5 (by omega)
      rw [this, show sq x (m + 1) r = sq x m (sqStep x r m) from rfl, hsq]

theorem ref02_Sqrt_loop {n : Nat} {x : Int} : ∀ (m k r a : Nat), r = a * 2 ^ m → (a + 1) * 2 ^ m ≤ 4294967296 → m < k → L_ref02_Sqrt_5 n k (x, (r : Int), (bitOf m : Int), ()) = some (((sq x m r : Nat) : Int), ())
  | 0, k, r, a, h1, h2, h3 => by
    obtain ⟨k, rfl⟩ : ∃ i, k = i + 1 := ⟨k - 1, by omega⟩
    rw [L_ref02_Sqrt_5_eq, brk_ite, if_neg (by simp [bitOf])]
    rfl
  | m + 1, k, r, a, h1, h2, h3 => by
    obtain ⟨k, rfl⟩ : ∃ i, k = i + 1 := ⟨k - 1, by omega⟩
    have hp := pow32 h2
    obtain ⟨a', h4, h5⟩ := sq_inv (x := x) h1 h2
    have hp2 := pow32 h5
    rw [L_ref02_Sqrt_5_eq]
    simp only [brk_ite, decide_eq_true_eq]
    rw [show bitOf (m + 1) = 2 ^ m from rfl, if_pos (by omega)]
    obtain ⟨s, hs⟩ : ∃ s, s = r + 2 ^ m := ⟨_, rfl⟩
    have hs32 : s < 4294967296 := by
      rw [hs, h1]
      rw [Nat.add_mul] at h2
      have : 2 ^ m < 2 ^ (m + 1) := Nat.pow_lt_pow_right (by omega) (by omega)
      omega
    have hi : (r : Int) + ((2 ^ m : Nat) : Int) = (s : Int) := by rw [hs]; simp
    rw [hi, w64 (x := (s : Int)) (by omega) (by omega)]
    have hq : qt .i64 ((2 ^ m : Nat) : Int) 2 = some ((bitOf m : Nat) : Int) := by
      have e : (((2 ^ m : Nat) : Int)).tdiv 2 = ((2 ^ m / 2 : Nat) : Int) := by
        rw [Int.tdiv_eq_ediv_of_nonneg (by omega)]; rfl
      rw [qt64 (by omega) (by rw [e]; omega) (by rw [e]; omega), e, bitOf_half]
    have hsq : sqStep x r m = if s ≤ 3037000499 ∧ ((s : Nat) : Int) * ((s : Nat) : Int) ≤ x then s else r := by unfold sqStep; rw [← hs]
    by_cases c1 : s ≤ 3037000499
    · rw [if_pos (by omega)]
      have hmm := sq_max.1 c1
      have hmi : ((s : Nat) : Int) * ((s : Nat) : Int) = ((s * s : Nat) : Int) := by simp
      rw [w64 (by rw [hmi]; omega) (by rw [hmi]; omega)]
      by_cases c2 : ((s : Nat) : Int) * ((s : Nat) : Int) ≤ x
      · rw [if_pos c2]
        simp only [Option.bind_some]
        rw [hq]
        simp only [Option.bind_some]
        rw [if_pos ⟨c1, c2⟩] at hsq
        have := ref02_Sqrt_loop (n := n) (x := x) m k s a' (by rw [← h4, hsq]) h5 (by omega)
        rw [this, show sq x (m + 1) r = sq x m (sqStep x r m) from rfl, hsq]
      · rw [if_neg c2]
        simp only [Option.bind_some]
        rw [hq]
        simp only [Option.bind_some]
        rw [if_neg (fun h => c2 h.2)] at hsq
        have := ref02_Sqrt_loop (n := n) (x := x) m k r a' (by rw [← h4, hsq]) h5 (by omega)
        rw [this, show sq x (m + 1) r = sq x m (sqStep x r m) from rfl, hsq]
    · rw [if_neg (by omega)]
      simp only [Option.bind_some]
      rw [hq]
      simp only [Option.bind_some]
      rw [if_neg (fun h => c1 h.1)] at hsq
      have := ref02_Sqrt_loop (n := n) (x := x) m k r a' (by rw [← h4, hsq]) h5 (by omega)
      rw [this, show sq x (m + 1) r = sq x m (sqStep x r m) from rfl, hsq]

theorem sqrt_ex : ∃ f : Int → Int, ∀ x, f x = ((sq x 32 0 : Nat) : Int) := ⟨_, fun _ => rfl⟩
/-- the root; shut, so that nobody reckons it -/
noncomputable def sqrtI : Int → Int := Classical.choose sqrt_ex
theorem sqrtI_eq (x : Int) : sqrtI x = ((sq x 32 0 : Nat) : Int) := Classical.choose_spec sqrt_ex x

theorem sq_rng {x : Int} : ∀ (m r a : Nat), r = a * 2 ^ m → (a + 1) * 2 ^ m ≤ 4294967296 → sq x m r < 4294967296
  | 0, r, a, h1, h2 => by show r < _; omega
  | m + 1, r, a, h1, h2 => by
    obtain ⟨a', h4, h5⟩ := sq_inv (x := x) h1 h2
    exact sq_rng m _ a' h4 h5
theorem sqrtI_rng (x : Int) : 0 ≤ sqrtI x ∧ sqrtI x < 4294967296 := by
  have := sq_rng (x := x) 32 0 0 (by simp) (by decide)
  rw [sqrtI_eq]; omega

theorem fixed_Sqrt {n : Nat} (hn : 100 ≤ n) {x : Int} (hx : 0 ≤ x) : F_fixed_Sqrt n x = some (sqrtI x, 0) := by
  rw [F_fixed_Sqrt_eq, brk_ite, if_neg (by simp; omega)]
  have := fixed_Sqrt_loop (n := n) (x := x) 32 n 0 0 (by simp) (by decide) (by omega)
  rw [show ((bitOf 32 : Nat) : Int) = 2147483648 from rfl] at this
  rw [show ((0 : Nat) : Int) = 0 from rfl] at this
  rw [this, sqrtI_eq]; rfl
theorem ref02_Sqrt {n : Nat} (hn : 100 ≤ n) {x : Int} (hx : 0 ≤ x) : F_ref02_Sqrt n x = some (sqrtI x, 0) := by
  rw [F_ref02_Sqrt_eq, brk_ite, if_neg (by simp; omega)]
  have := ref02_Sqrt_loop (n := n) (x := x) 32 n 0 0 (by simp) (by decide) (by omega)
  rw [show ((bitOf 32 : Nat) : Int) = 2147483648 from rfl] at this
  rw [show ((0 : Nat) : Int) = 0 from rfl] at this
  rw [this, sqrtI_eq]; rfl

end Go.Am.Pu

/- Plain laws: norm (layer 9). -/
namespace Go.Am.Pu
open Go Go.Am

theorem sumN_rng' {g : Nat → Int} {m : Int} : ∀ i : Nat, (∀ j, j < i → 0 ≤ g j ∧ g j ≤ m) → 0 ≤ sumN g i ∧ sumN g i ≤ i * m
  | 0, _ => by simp [sumN]
  | i + 1, h => by
    have h1 := sumN_rng' i (fun j hj => h j (by omega))
    have h2 := h i (by omega)
    simp only [sumN]
    rw [show ((i + 1 : Nat) : Int) * m = i * m + m by rw [Int.natCast_add, Int.add_mul]; simp]
    omega

def farAt (l : List Int) (i : Nat) : Prop := l.getD i 0 < -268435456 ∨ l.getD i 0 > 268435456
def sqs (l : List Int) (i : Nat) : Int := sumN (fun i => l.getD i 0 * l.getD i 0) i
open Classical in
noncomputable def rootI (l : List Int) : Int × Int :=
  if l.length = 0 ∨ l.length > 64 then (0, 1) else if ∃ i, i < l.length ∧ farAt l i then (0, 90) else (imax 1 (sqrtI (sqs l l.length / (l.length : Int))), 0)

theorem sq_le {x m : Int} (h1 : -m ≤ x) (h2 : x ≤ m) : 0 ≤ x * x ∧ x * x ≤ m * m := by
  have h : ∀ y : Int, 0 ≤ y → y ≤ m → 0 ≤ y * y ∧ y * y ≤ m * m := fun y a b => ⟨Int.mul_nonneg a a, Int.mul_le_mul b b a (by omega)⟩
  by_cases h0 : 0 ≤ x
  · exact h x h0 h2
  · have := h (-x) (by omega) (by omega)
    rwa [Int.neg_mul_neg] at this

theorem sqs_rng {l : List Int} {i : Nat} (h : ∀ j, j < i → ¬ farAt l j) : 0 ≤ sqs l i ∧ sqs l i ≤ i * 72057594037927936 :=
  sumN_rng' i fun j hj => by
    have h1 : -268435456 ≤ l.getD j 0 ∧ l.getD j 0 ≤ 268435456 := by
      have := h j hj
      unfold farAt at this
      omega
    exact sq_le h1.1 h1.2

theorem imax1 {x : Int} (h : 0 ≤ x) : imax 1 x = if x = 0 then 1 else x := by
  unfold imax
  split <;> split <;> omega

theorem norm_root {n : Nat} {l : List Int} (hn : 2000000000 ≤ n) : F_norm_root n l = some (rootI l) := by
  rw [F_norm_root_eq]
  unfold rootI
  simp only [brk_ite, decide_eq_true_eq, beq_iff_eq]
  by_cases h0 : ((l.length : Nat) : Int) = 0
  · rw [if_pos h0, if_pos (.inl (by omega))]
  · rw [if_neg h0]
    by_cases h1 : ((l.length : Nat) : Int) > 64
    · rw [if_pos h1, if_pos (.inr (by omega))]
    · rw [if_neg h1, if_neg (show ¬ (l.length = 0 ∨ l.length > 64) by omega)]
      have step : ∀ k i : Nat, i < l.length → (∀ j, j < i → ¬ farAt l j) → (farAt l i → L_norm_root_5 n (k + 1) (l, sqs l i, l, ((l.length : Nat) : Int), (i : Int), ()) = some (Sum.inl (0, 90, ()))) ∧
          (¬ farAt l i → L_norm_root_5 n (k + 1) (l, sqs l i, l, ((l.length : Nat) : Int), (i : Int), ()) = L_norm_root_5 n k (l, sqs l (i + 1), l, ((l.length : Nat) : Int), (i : Int) + 1, ())) := by
        intro k i hi hj
        rw [L_norm_root_5_eq]
        simp only [brk_ite, decide_eq_true_eq]
        rw [if_pos (by omega), idx_getD hi 0]
        simp only [Option.bind_some]
        refine ⟨fun hf => ?_, fun hf => ?_⟩
        · rcases hf with hf | hf
          · rw [if_pos hf]
          · rw [if_neg (by omega), if_pos hf]
        · have h2 : -268435456 ≤ l.getD i 0 ∧ l.getD i 0 ≤ 268435456 := by
            unfold farAt at hf
            omega
          have h3 := sq_le h2.1 h2.2
          have h4 := sqs_rng hj
          rw [if_neg (by omega), if_neg (by omega), w64 (x := l.getD i 0 * l.getD i 0) (by omega) (by omega), w64 (x := (i : Int) + 1) (by omega) (by omega), w64 (by omega) (by omega)]
          rfl
      by_cases hex : ∃ i, i < l.length ∧ farAt l i
      · rw [if_pos hex]
        obtain ⟨i0, hi0, hb0⟩ := hex
        obtain ⟨i, hi, hlt, hle⟩ := least (p := fun i => farAt l i) i0 hb0
        have hL := loop_st (L := fun k i o => L_norm_root_5 n k (l, o, l, ((l.length : Nat) : Int), i, ())) (len := i) (r := Sum.inl (0, 90, ())) (fun i => sqs l i)
          (fun k j hj => (step k j (by omega) (fun j' h => hlt j' (by omega))).2 (hlt j hj)) (fun k => (step k i (by omega) hlt).1 hi) n (by omega)
        rw [show sqs l 0 = 0 from rfl] at hL
        rw [hL]; rfl
      · rw [if_neg hex]
        have hno : ∀ j, j < l.length → ¬ farAt l j := fun j hj h => hex ⟨j, hj, h⟩
        have hL := loop_st (L := fun k i o => L_norm_root_5 n k (l, o, l, ((l.length : Nat) : Int), i, ())) (len := l.length) (r := Sum.inr (l, sqs l l.length, ())) (fun i => sqs l i)
          (fun k j hj => (step k j hj (fun j' h => hno j' (by omega))).2 (hno j hj)) (fun k => by
            show L_norm_root_5 n (k + 1) _ = _
            rw [L_norm_root_5_eq, brk_ite, if_neg (by simp)]) n (by omega)
        rw [show sqs l 0 = 0 from rfl] at hL
        rw [hL]
        have h4 := sqs_rng hno
        simp only [Option.bind_some, sumk]
        have hd := (ediv_rng (x := sqs l l.length) (d := (l.length : Int)) (by omega)).1 h4.1
        rw [qt64 (by omega) (by rw [Int.tdiv_eq_ediv_of_nonneg h4.1]; omega) (by rw [Int.tdiv_eq_ediv_of_nonneg h4.1]; omega), Int.tdiv_eq_ediv_of_nonneg h4.1]
        simp only [Option.bind_some]
        rw [fixed_Sqrt (by omega) hd.1]
        rfl

theorem ref09_Root {n : Nat} {l : List Int} (hn : 2000000000 ≤ n) : F_ref09_Root n l = some (rootI l) := by
  rw [F_ref09_Root_eq]
  unfold rootI
  simp only [brk_ite, decide_eq_true_eq, beq_iff_eq]
  by_cases h0 : ((l.length : Nat) : Int) < 1
  · rw [if_pos h0, if_pos (.inl (by omega))]
  · rw [if_neg h0]
    by_cases h1 : ((l.length : Nat) : Int) > 64
    · rw [if_pos h1, if_pos (.inr (by omega))]
    · rw [if_neg h1, if_neg (show ¬ (l.length = 0 ∨ l.length > 64) by omega)]
      have step : ∀ k i : Nat, i < l.length → (∀ j, j < i → ¬ farAt l j) → (farAt l i → L_ref09_Root_5 n (k + 1) (l, sqs l i, (i : Int), ()) = some (Sum.inl (0, 90, ()))) ∧
          (¬ farAt l i → L_ref09_Root_5 n (k + 1) (l, sqs l i, (i : Int), ()) = L_ref09_Root_5 n k (l, sqs l (i + 1), (i : Int) + 1, ())) := by
        intro k i hi hj
        rw [L_ref09_Root_5_eq]
        simp only [brk_ite, decide_eq_true_eq]
        rw [if_pos (by omega), idx_getD hi 0]
        simp only [Option.bind_some]
        refine ⟨fun hf => ?_, fun hf => ?_⟩
        · rcases hf with hf | hf
          · rw [if_neg (by omega), if_pos hf]
          · rw [if_pos hf]
        · have h2 : -268435456 ≤ l.getD i 0 ∧ l.getD i 0 ≤ 268435456 := by
            unfold farAt at hf
            omega
          have h3 := sq_le h2.1 h2.2
          have h4 := sqs_rng hj
          rw [if_neg (by omega), if_neg (by omega), w64 (x := l.getD i 0 * l.getD i 0) (by omega) (by omega), w64 (x := (i : Int) + 1) (by omega) (by omega), w64 (by omega) (by omega)]
          rfl
      by_cases hex : ∃ i, i < l.length ∧ farAt l i
      · rw [if_pos hex]
        obtain ⟨i0, hi0, hb0⟩ := hex
        obtain ⟨i, hi, hlt, hle⟩ := least (p := fun i => farAt l i) i0 hb0
        have hL := loop_st (L := fun k i o => L_ref09_Root_5 n k (l, o, i, ())) (len := i) (r := Sum.inl (0, 90, ())) (fun i => sqs l i)
          (fun k j hj => (step k j (by omega) (fun j' h => hlt j' (by omega))).2 (hlt j hj)) (fun k => (step k i (by omega) hlt).1 hi) n (by omega)
        rw [show sqs l 0 = 0 from rfl] at hL
        rw [hL]; rfl
      · rw [if_neg hex]
        have hno : ∀ j, j < l.length → ¬ farAt l j := fun j hj h => hex ⟨j, hj, h⟩
        have hL := loop_st (L := fun k i o => L_ref09_Root_5 n k (l, o, i, ())) (len := l.length) (r := Sum.inr (l, sqs l l.length, ())) (fun i => sqs l i)
          (fun k j hj => (step k j hj (fun j' h => hno j' (by omega))).2 (hno j hj)) (fun k => by
            show L_ref09_Root_5 n (k + 1) _ = _
            rw [L_ref09_Root_5_eq, brk_ite, if_neg (by simp)]) n (by omega)
        rw [show sqs l 0 = 0 from rfl] at hL
        rw [hL]
        have h4 := sqs_rng hno
        simp only [Option.bind_some, sumk]
        have hd := (ediv_rng (x := sqs l l.length) (d := (l.length : Int)) (by omega)).1 h4.1
        rw [qt64 (by omega) (by rw [Int.tdiv_eq_ediv_of_nonneg h4.1]; omega) (by rw [Int.tdiv_eq_ediv_of_nonneg h4.1]; omega), Int.tdiv_eq_ediv_of_nonneg h4.1]
        simp only [Option.bind_some]
        rw [ref02_Sqrt (by omega) hd.1, imax1 (sqrtI_rng _).1]
        simp only [Option.bind_some]
        split <;> rfl

def normAt (l gain : List Int) (r : Int) (i : Nat) : Int := narrowI (roundI ((64 * l.getD i 0).tdiv r * gain.getD i 0) 6).1
noncomputable def rowI (l gain : List Int) : List Int × Int :=
  if l.length ≠ gain.length then ([], 1) else if (rootI l).2 ≠ 0 then ([], (rootI l).2) else (tab (normAt l gain (rootI l).1) l.length, 0)

theorem rootI_ok {l : List Int} (h : (rootI l).2 = 0) : 1 ≤ l.length ∧ l.length ≤ 64 ∧ (∀ j, j < l.length → ¬ farAt l j) ∧ 1 ≤ (rootI l).1 ∧ (rootI l).1 ≤ 4294967296 := by
  unfold rootI at h ⊢
  by_cases h0 : l.length = 0 ∨ l.length > 64
  · rw [if_pos h0] at h; cases h
  · rw [if_neg h0] at h ⊢
    by_cases h1 : ∃ i, i < l.length ∧ farAt l i
    · rw [if_pos h1] at h; cases h
    · rw [if_neg h1]
      have := sqrtI_rng (sqs l l.length / (l.length : Int))
      refine ⟨by omega, by omega, fun j hj hf => h1 ⟨j, hj, hf⟩, ?_, ?_⟩
      · show 1 ≤ imax 1 _
        rw [imax1 this.1]; split <;> omega
      · show imax 1 _ ≤ _
        rw [imax1 this.1]; split <;> omega

theorem mul_rng {a b m k : Int} (ha : -m ≤ a ∧ a ≤ m) (hb : -k ≤ b ∧ b ≤ k) : -(m * k) ≤ a * b ∧ a * b ≤ m * k := by
  have h : ∀ a b : Int, 0 ≤ a → a ≤ m → 0 ≤ b → b ≤ k → 0 ≤ a * b ∧ a * b ≤ m * k := fun a b h1 h2 h3 h4 =>
    ⟨Int.mul_nonneg h1 h3, Int.mul_le_mul h2 h4 h3 (by omega)⟩
  by_cases h1 : 0 ≤ a
  · by_cases h2 : 0 ≤ b
    · have := h a b h1 (by omega) h2 (by omega); omega
    · have := h a (-b) h1 (by omega) (by omega) (by omega)
      rw [Int.mul_neg] at this; omega
  · by_cases h2 : 0 ≤ b
    · have := h (-a) b (by omega) (by omega) h2 (by omega)
      rw [Int.neg_mul] at this; omega
    · have := h (-a) (-b) (by omega) (by omega) (by omega) (by omega)
      rw [Int.neg_mul_neg] at this; omega

theorem norm_bounds {l gain : List Int} {r : Int} {i : Nat} (hg : all8 gain) (hf : ¬ farAt l i) (hr : 1 ≤ r) : (-268435456 ≤ l.getD i 0 ∧ l.getD i 0 ≤ 268435456) ∧ (-17179869184 ≤ (64 * l.getD i 0).tdiv r ∧ (64 * l.getD i 0).tdiv r ≤ 17179869184) ∧
    (-(17179869184 * 128) ≤ (64 * l.getD i 0).tdiv r * gain.getD i 0 ∧ (64 * l.getD i 0).tdiv r * gain.getD i 0 ≤ 17179869184 * 128) := by
  have h2 : -268435456 ≤ l.getD i 0 ∧ l.getD i 0 ≤ 268435456 := by
    unfold farAt at hf
    omega
  have h3 := tdiv_rng (x := 64 * l.getD i 0) hr
  have h4 : -17179869184 ≤ (64 * l.getD i 0).tdiv r ∧ (64 * l.getD i 0).tdiv r ≤ 17179869184 := by omega
  have h5 := hg.at i
  exact ⟨h2, h4, mul_rng h4 (by omega)⟩

theorem norm_Row {n : Nat} {l gain : List Int} (hg : all8 gain) (hn : 2000000000 ≤ n) : F_norm_Row n (l, gain) = some (rowI l gain) := by
  rw [F_norm_Row_eq]
  unfold rowI
  simp only [brk_ite, decide_eq_true_eq, bne_iff_ne, ne_eq]
  by_cases h0 : ((l.length : Nat) : Int) = ((gain.length : Nat) : Int)
  · rw [if_neg (by simpa using h0), if_neg (show ¬ ¬ l.length = gain.length by omega), norm_root hn]
    simp only [Option.bind_some]
    by_cases h1 : (rootI l).2 = 0
    · rw [if_neg (by simpa using h1), if_neg (by simpa using h1)]
      obtain ⟨a1, a2, a3, a4, a5⟩ := rootI_ok h1
      have hm : mkn 1 (l.length : Int) = some l.length := by
        unfold mkn room
        rw [if_pos ⟨by omega, by omega, by omega⟩]; simp
      rw [hm]
      simp only [Option.bind_some]
      have hL := loop_st (L := fun k i o => L_norm_Row_8 n k (gain, (rootI l).1, (), l, ((l.length : Nat) : Int), i, o, ())) (len := l.length) (r := ((), tab (normAt l gain (rootI l).1) l.length, ())) (fun i => fill (normAt l gain (rootI l).1) 0 l.length i) ?_ ?_ n (by omega)
      · rw [fill_zero] at hL
        rw [hL]; rfl
      · intro k i hi
        show L_norm_Row_8 n (k + 1) _ = _
        rw [L_norm_Row_8_eq]
        simp only [brk_ite, decide_eq_true_eq]
        obtain ⟨b1, b2, b3⟩ := norm_bounds hg (a3 i hi) a4
        have b4 := hg.at i
        rw [if_pos (by omega), idx_getD hi 0]
        simp only [Option.bind_some]
        rw [w64 (x := 64 * l.getD i 0) (by omega) (by omega), qt64 (by omega) (by omega) (by omega), idx_getD (show i < gain.length by omega) 0]
        simp only [Option.bind_some]
        rw [w64 (x := gain.getD i 0) (by omega) (by omega), w64 (x := (64 * l.getD i 0).tdiv (rootI l).1 * gain.getD i 0) (by omega) (by omega), fixed_Round (by omega) (by omega)]
        simp only [Option.bind_some]
        rw [fixed_Narrow, ck_fill _ _ hi]
        simp only [Option.bind_some]
        rw [get_fill _ _ hi, w64 (by omega) (by omega)]
        simp only [Option.bind_some]
        rw [show narrowI (roundI ((64 * l.getD i 0).tdiv (rootI l).1 * gain.getD i 0) 6).1 = normAt l gain (rootI l).1 i from rfl, fill_set _ _ hi]
      · intro k
        show L_norm_Row_8 n (k + 1) _ = _
        rw [L_norm_Row_8_eq, brk_ite, if_neg (by simp), fill_end]
    · rw [if_pos h1, if_pos h1]
  · rw [if_pos h0, if_pos (by omega)]

theorem ref09_Row {n : Nat} {l gain : List Int} (hg : all8 gain) (hn : 2000000000 ≤ n) : F_ref09_Row n (l, gain) = some (rowI l gain) := by
  rw [F_ref09_Row_eq]
  unfold rowI
  simp only [brk_ite, decide_eq_true_eq, bne_iff_ne, ne_eq]
  by_cases h0 : ((l.length : Nat) : Int) = ((gain.length : Nat) : Int)
  · rw [if_neg (by simpa using h0), if_neg (show ¬ ¬ l.length = gain.length by omega), ref09_Root hn]
    simp only [Option.bind_some]
    by_cases h1 : (rootI l).2 = 0
    · rw [if_neg (by simpa using h1), if_neg (by simpa using h1)]
      obtain ⟨a1, a2, a3, a4, a5⟩ := rootI_ok h1
      have hL := loop_st (L := fun k i o => L_ref09_Row_8 n k (l, gain, (rootI l).1, o, i, ())) (len := l.length) (r := (tab (normAt l gain (rootI l).1) l.length, ())) (fun i => tab (normAt l gain (rootI l).1) i) ?_ ?_ n (by omega)
      · rw [tab_zero] at hL
        rw [hL]; rfl
      · intro k i hi
        show L_ref09_Row_8 n (k + 1) _ = _
        rw [L_ref09_Row_8_eq]
        simp only [brk_ite, decide_eq_true_eq]
        obtain ⟨b1, b2, b3⟩ := norm_bounds hg (a3 i hi) a4
        have b4 := hg.at i
        rw [if_pos (by omega), idx_getD hi 0]
        simp only [Option.bind_some]
        have e1 : (if l.getD i 0 < 0 then some (l, gain, (rootI l).1, tab (normAt l gain (rootI l).1) i, (i : Int), IntKind.wrap .i64 (0 - l.getD i 0), ()) else some (l, gain, (rootI l).1, tab (normAt l gain (rootI l).1) i, (i : Int), l.getD i 0, ())) =
            some (l, gain, (rootI l).1, tab (normAt l gain (rootI l).1) i, (i : Int), (if l.getD i 0 < 0 then -l.getD i 0 else l.getD i 0), ()) := by
          split
          · rw [w64 (by omega) (by omega)]; simp
          · rfl
        rw [e1]
        simp only [Option.bind_some]
        obtain ⟨y, hy⟩ : ∃ y, y = (if l.getD i 0 < 0 then -l.getD i 0 else l.getD i 0) := ⟨_, rfl⟩
        have hyr : 0 ≤ y ∧ y ≤ 268435456 := by rw [hy]; split <;> omega
        rw [← hy]
        have h3 := (tdiv_rng (x := 64 * y) a4).1 (by omega)
        rw [w64 (x := 64 * y) (by omega) (by omega), qt64 (by omega) (by omega) (by omega)]
        simp only [Option.bind_some]
        rw [idx_getD hi 0]
        simp only [Option.bind_some]
        have e2 : (if l.getD i 0 < 0 then some (l, gain, (rootI l).1, tab (normAt l gain (rootI l).1) i, (i : Int), IntKind.wrap .i64 (0 - (64 * y).tdiv (rootI l).1), ()) else some (l, gain, (rootI l).1, tab (normAt l gain (rootI l).1) i, (i : Int), (64 * y).tdiv (rootI l).1, ())) =
            some (l, gain, (rootI l).1, tab (normAt l gain (rootI l).1) i, (i : Int), (64 * l.getD i 0).tdiv (rootI l).1, ()) := by
          split
          · rename_i hneg
            rw [if_pos hneg] at hy
            rw [w64 (by omega) (by omega), hy, Int.mul_neg, Int.neg_tdiv]; simp
          · rename_i hneg
            rw [if_neg hneg] at hy
            rw [hy]
        rw [e2]
        simp only [Option.bind_some]
        rw [idx_getD (show i < gain.length by omega) 0]
        simp only [Option.bind_some]
        rw [w64 (x := gain.getD i 0) (by omega) (by omega), w64 (x := (64 * l.getD i 0).tdiv (rootI l).1 * gain.getD i 0) (by omega) (by omega), ref02_Round (by omega) (by omega) (by omega)]
        simp only [Option.bind_some]
        rw [ref02_Narrow]
        simp only [Option.bind_some]
        rw [show narrowI (roundI ((64 * l.getD i 0).tdiv (rootI l).1 * gain.getD i 0) 6).1 = normAt l gain (rootI l).1 i from rfl, app_tab _ (by unfold room; omega) (by unfold room; omega), w64 (by omega) (by omega)]
        rfl
      · intro k
        show L_ref09_Row_8 n (k + 1) _ = _
        rw [L_ref09_Row_8_eq, brk_ite, if_neg (by simp)]
    · rw [if_pos h1, if_pos h1]
  · rw [if_pos h0, if_pos (by omega)]

end Go.Am.Pu

/- Plain laws: rope (layer 10). -/
namespace Go.Am.Pu
open Go Go.Am

def kk (sz p : Nat) : Nat := (2 * p % sz) / 2
def ropeA (x cos sin : List Int) (sz p : Nat) : Int := narrowI (roundI (x.getD (2 * p) 0 * cos.getD (kk sz p) 0 - x.getD (2 * p + 1) 0 * sin.getD (kk sz p) 0) 6).1
def ropeB (x cos sin : List Int) (sz p : Nat) : Int := narrowI (roundI (x.getD (2 * p) 0 * sin.getD (kk sz p) 0 + x.getD (2 * p + 1) 0 * cos.getD (kk sz p) 0) 6).1
def ropeG (x cos sin : List Int) (sz i : Nat) : Int := if i % 2 = 0 then ropeA x cos sin sz (i / 2) else ropeB x cos sin sz (i / 2)
def turnI (x : List Int) (size : Int) (cos sin : List Int) : List Int × Int :=
  if size < 2 ∨ size % 2 ≠ 0 ∨ (x.length : Int) % size ≠ 0 then ([], 100) else if (cos.length : Int) ≠ size / 2 ∨ (sin.length : Int) ≠ size / 2 then ([], 101) else (tab (ropeG x cos sin size.toNat) x.length, 0)

theorem ropeG_even (x cos sin : List Int) (sz p : Nat) : ropeG x cos sin sz (2 * p) = ropeA x cos sin sz p := by
  unfold ropeG; rw [if_pos (by omega), show 2 * p / 2 = p by omega]
theorem ropeG_odd (x cos sin : List Int) (sz p : Nat) : ropeG x cos sin sz (2 * p + 1) = ropeB x cos sin sz p := by
  unfold ropeG; rw [if_neg (by omega), show (2 * p + 1) / 2 = p by omega]

theorem kk_lt {sz p : Nat} (h : 2 ≤ sz) (h2 : sz % 2 = 0) : kk sz p < sz / 2 := by
  unfold kk
  have := Nat.mod_lt (2 * p) (show 0 < sz by omega)
  omega

theorem rm_nn {a b : Int} (ha : 0 ≤ a) (hb : b ≠ 0) : rm a b = some (a % b) := by rw [rm_some hb, Int.tmod_eq_emod_of_nonneg ha]
theorem qt_nn' {a b : Int} (ha : 0 ≤ a) (ha2 : a ≤ 9223372036854775807) (hb : 1 ≤ b) : qt .i64 a b = some (a / b) := by
  have h := (ediv_rng (x := a) hb).1 ha
  rw [qt64 (by omega) (by rw [Int.tdiv_eq_ediv_of_nonneg ha]; omega) (by rw [Int.tdiv_eq_ediv_of_nonneg ha]; omega), Int.tdiv_eq_ediv_of_nonneg ha]

/-- the tests ahead of a turn -/
theorem rope_head {x cos sin : List Int} {size : Int} (hs : size ≤ 9223372036854775807) {K : Option (List Int × Int)}
    (hK : 2 ≤ size → size % 2 = 0 → (x.length : Int) % size = 0 → (cos.length : Int) = size / 2 → (sin.length : Int) = size / 2 → K = some (tab (ropeG x cos sin size.toNat) x.length, 0)) :
    (brk (decide (size < (2 : Int)))
      (some ([], (100 : Int)))
      (((rm size (2 : Int))).bind fun v1 =>
      brk (v1 != (0 : Int))
        (some ([], (100 : Int)))
        (((rm (((List.length x) : Nat) : Int) size)).bind fun v2 =>
        brk (v2 != (0 : Int))
          (some ([], (100 : Int)))
          (((qt IntKind.i64 size (2 : Int))).bind fun v3 =>
          brk ((((List.length cos) : Nat) : Int) != v3)
            (some ([], (101 : Int)))
            (((qt IntKind.i64 size (2 : Int))).bind fun v4 =>
            brk ((((List.length sin) : Nat) : Int) != v4)
              (some ([], (101 : Int))) K))))) = some (turnI x size cos sin) := by
  unfold turnI
  simp only [brk_ite, decide_eq_true_eq, bne_iff_ne, ne_eq]
  by_cases h1 : size < 2
  · rw [if_pos h1, if_pos (.inl h1)]
  · rw [if_neg h1, rm_nn (by omega) (by omega)]
    simp only [Option.bind_some]
    by_cases h2 : size % 2 = 0
    · rw [if_neg (by simpa using h2), rm_nn (by omega) (by omega)]
      simp only [Option.bind_some]
      by_cases h3 : (x.length : Int) % size = 0
      · rw [if_neg (by simpa using h3), qt_nn' (by omega) (by omega) (by omega)]
        simp only [Option.bind_some]
        have hA : ¬ (size < 2 ∨ ¬ size % 2 = 0 ∨ ¬ (x.length : Int) % size = 0) := by
          rintro (h | h | h)
          · exact h1 h
          · exact h h2
          · exact h h3
        rw [if_neg hA]
        by_cases h4 : (cos.length : Int) = size / 2
        · rw [if_neg (by simpa using h4)]
          by_cases h5 : (sin.length : Int) = size / 2
          · have hB : ¬ (¬ (cos.length : Int) = size / 2 ∨ ¬ (sin.length : Int) = size / 2) := by
              rintro (h | h)
              · exact h h4
              · exact h h5
            rw [if_neg (by simpa using h5), if_neg hB]
            exact hK (by omega) h2 h3 h4 h5
          · rw [if_pos h5, if_pos (.inr h5)]
        · rw [if_pos h4, if_pos (.inl h4)]
      · rw [if_pos h3, if_pos (.inr (.inr h3))]
    · rw [if_pos h2, if_pos (.inr (.inl h2))]

theorem even_len {l size : Nat} (h : l % size = 0) (h2 : size % 2 = 0) : l % 2 = 0 :=
  Nat.mod_eq_zero_of_dvd (Nat.dvd_trans (Nat.dvd_of_mod_eq_zero h2) (Nat.dvd_of_mod_eq_zero h))

theorem idx_nat {l : List Int} {i : Int} {j : Nat} (hij : i = (j : Int)) (h : j < l.length) : idx l i = some (l.getD j 0) := by rw [hij]; exact idx_getD h 0

theorem rope_Turn {n : Nat} {x cos sin : List Int} {size : Int} (hx : all8 x) (hc : all8 cos) (hsn : all8 sin) (hs : size ≤ 9223372036854775807) (hl : x.length ≤ 1000000000) (hn : 2000000000 ≤ n) : F_rope_Turn n (x, size, cos, sin) = some (turnI x size cos sin) := by
  rw [F_rope_Turn_eq, F_rope_pairs_g_rope_Turn_1_eq]
  rw [rope_head (x := x) hs ?_]
  · rfl
  · intro h1 h2 h3 h4 h5
    obtain ⟨sz, rfl⟩ : ∃ sz : Nat, size = (sz : Int) := ⟨size.toNat, by omega⟩
    rw [Int.toNat_natCast]
    have hev := even_len (l := x.length) (size := sz) (by omega) (by omega)
    have hm : mkn 1 (x.length : Int) = some x.length := by
      unfold mkn room
      rw [if_pos ⟨by omega, by omega, by omega⟩]; simp
    rw [hm]
    simp only [Option.bind_some]
    have hL := loop_st (L := fun k i o => L_rope_pairs_g_rope_Turn_1_7 n k (x, (sz : Int), cos, sin, (), (), 2 * i, o, ())) (len := x.length / 2) (r := ((), tab (ropeG x cos sin sz) x.length, ())) (fun p => fill (ropeG x cos sin sz) 0 x.length (2 * p)) ?_ ?_ n (by omega)
    · rw [show 2 * 0 = 0 from rfl, fill_zero] at hL
      rw [show (2 : Int) * 0 = 0 from rfl] at hL
      rw [hL]; rfl
    · intro k p hp
      show L_rope_pairs_g_rope_Turn_1_7 n (k + 1) _ = _
      rw [L_rope_pairs_g_rope_Turn_1_7_eq]
      simp only [brk_ite, decide_eq_true_eq]
      have hk := kk_lt (sz := sz) (p := p) (by omega) (by omega)
      have b1 := hx.at (2 * p)
      have b2 := hx.at (2 * p + 1)
      have b3 := hc.at (kk sz p)
      have b4 := hsn.at (kk sz p)
      have m1 := mul8 b1 b3
      have m2 := mul8 b2 b4
      have m3 := mul8 b1 b4
      have m4 := mul8 b2 b3
      rw [if_pos (by omega), rm_nn (by omega) (by omega)]
      simp only [Option.bind_some]
      have hmod : (2 * (p : Int)) % (sz : Int) = ((2 * p % sz : Nat) : Int) := by simp
      have hmlt := Nat.mod_lt (2 * p) (show 0 < sz by omega)
      rw [hmod, qt_nn' (by omega) (by omega) (by omega), w64 (x := 2 * (p : Int) + 1) (by omega) (by omega)]
      simp only [Option.bind_some]
      rw [idx_nat (j := 2 * p) (by omega) (by omega), idx_nat (j := 2 * p + 1) (by omega) (by omega)]
      simp only [Option.bind_some]
      rw [idx_nat (l := cos) (j := kk sz p) (by unfold kk; omega) (by omega), idx_nat (l := sin) (j := kk sz p) (by unfold kk; omega) (by omega)]
      simp only [Option.bind_some]
      rw [w64 (x := x.getD (2 * p) 0) (by omega) (by omega), w64 (x := x.getD (2 * p + 1) 0) (by omega) (by omega), w64 (x := cos.getD (kk sz p) 0) (by omega) (by omega), w64 (x := sin.getD (kk sz p) 0) (by omega) (by omega), F_rope_Turn_1_eq]
      simp only [Option.bind_some]
      rw [w64 (x := x.getD (2 * p) 0 * cos.getD (kk sz p) 0) (by omega) (by omega), w64 (x := x.getD (2 * p + 1) 0 * sin.getD (kk sz p) 0) (by omega) (by omega), w64 (x := x.getD (2 * p) 0 * sin.getD (kk sz p) 0) (by omega) (by omega), w64 (x := x.getD (2 * p + 1) 0 * cos.getD (kk sz p) 0) (by omega) (by omega)]
      rw [w64 (x := x.getD (2 * p) 0 * cos.getD (kk sz p) 0 - x.getD (2 * p + 1) 0 * sin.getD (kk sz p) 0) (by omega) (by omega), w64 (x := x.getD (2 * p) 0 * sin.getD (kk sz p) 0 + x.getD (2 * p + 1) 0 * cos.getD (kk sz p) 0) (by omega) (by omega)]
      rw [F_rope_narrow_eq, F_rope_narrow_eq, fixed_Round (by omega) (by omega), fixed_Round (by omega) (by omega)]
      simp only [Option.bind_some]
      rw [fixed_Narrow, fixed_Narrow]
      simp only [Option.bind_some]
      rw [show narrowI (roundI (x.getD (2 * p) 0 * cos.getD (kk sz p) 0 - x.getD (2 * p + 1) 0 * sin.getD (kk sz p) 0) 6).1 = ropeG x cos sin sz (2 * p) from (ropeG_even _ _ _ _ _).symm,
        show narrowI (roundI (x.getD (2 * p) 0 * sin.getD (kk sz p) 0 + x.getD (2 * p + 1) 0 * cos.getD (kk sz p) 0) 6).1 = ropeG x cos sin sz (2 * p + 1) from (ropeG_odd _ _ _ _ _).symm]
      rw [show (2 * (p : Int)) = ((2 * p : Nat) : Int) by simp, show ((2 * p : Nat) : Int) + 1 = ((2 * p + 1 : Nat) : Int) by simp]
      rw [ck_fill _ _ (show 2 * p < x.length by omega)]
      simp only [Option.bind_some]
      rw [get_fill _ _ (show 2 * p < x.length by omega), fill_set _ _ (show 2 * p < x.length by omega)]
      simp only [Option.bind_some]
      rw [ck_fill _ _ (show 2 * p + 1 < x.length by omega)]
      simp only [Option.bind_some]
      rw [get_fill _ _ (show 2 * p + 1 < x.length by omega), fill_set _ _ (show 2 * p + 1 < x.length by omega)]
      simp only [Option.bind_some]
      rw [w64 (by omega) (by omega), show ((2 * p : Nat) : Int) + 2 = 2 * ((p : Int) + 1) by omega]
      rfl
    · intro k
      show L_rope_pairs_g_rope_Turn_1_7 n (k + 1) _ = _
      rw [L_rope_pairs_g_rope_Turn_1_7_eq, brk_ite, if_neg (by simp; omega), show 2 * (x.length / 2) = x.length by omega, fill_end]

theorem ref10_Turn {n : Nat} {x cos sin : List Int} {size : Int} (hx : all8 x) (hc : all8 cos) (hsn : all8 sin) (hs : size ≤ 9223372036854775807) (hl : x.length ≤ 1000000000) (hn : 2000000000 ≤ n) : F_ref10_Turn n (x, size, cos, sin) = some (turnI x size cos sin) := by
  rw [F_ref10_Turn_eq, F_ref10_turned_eq]
  rw [rope_head (x := x) hs ?_]
  · rfl
  · intro h1 h2 h3 h4 h5
    obtain ⟨sz, rfl⟩ : ∃ sz : Nat, size = (sz : Int) := ⟨size.toNat, by omega⟩
    rw [Int.toNat_natCast]
    have hev := even_len (l := x.length) (size := sz) (by omega) (by omega)
    have hL := loop_st (L := fun k i o => L_ref10_turned_7 n k (x, (sz : Int), cos, sin, -1, o, 2 * i, ())) (len := x.length / 2) (r := (tab (ropeG x cos sin sz) x.length, ())) (fun p => tab (ropeG x cos sin sz) (2 * p)) ?_ ?_ n (by omega)
    · rw [show 2 * 0 = 0 from rfl, tab_zero] at hL
      rw [show (2 : Int) * 0 = 0 from rfl] at hL
      rw [hL]; rfl
    · intro k p hp
      show L_ref10_turned_7 n (k + 1) _ = _
      rw [L_ref10_turned_7_eq]
      simp only [brk_ite, decide_eq_true_eq]
      have hk := kk_lt (sz := sz) (p := p) (by omega) (by omega)
      have b1 := hx.at (2 * p)
      have b2 := hx.at (2 * p + 1)
      have b3 := hc.at (kk sz p)
      have b4 := hsn.at (kk sz p)
      have m1 := mul8 b1 b3
      have m2 := mul8 b2 b4
      have m3 := mul8 b1 b4
      have m4 := mul8 b2 b3
      rw [if_pos (by omega), rm_nn (by omega) (by omega)]
      simp only [Option.bind_some]
      have hmod : (2 * (p : Int)) % (sz : Int) = ((2 * p % sz : Nat) : Int) := by simp
      have hmlt := Nat.mod_lt (2 * p) (show 0 < sz by omega)
      rw [hmod, qt_nn' (by omega) (by omega) (by omega), w64 (x := 2 * (p : Int) + 1) (by omega) (by omega)]
      simp only [Option.bind_some]
      rw [idx_nat (j := 2 * p) (by omega) (by omega), idx_nat (j := 2 * p + 1) (by omega) (by omega)]
      simp only [Option.bind_some]
      rw [idx_nat (l := cos) (j := kk sz p) (by unfold kk; omega) (by omega), idx_nat (l := sin) (j := kk sz p) (by unfold kk; omega) (by omega)]
      simp only [Option.bind_some]
      rw [w64 (x := x.getD (2 * p) 0) (by omega) (by omega), w64 (x := x.getD (2 * p + 1) 0) (by omega) (by omega), w64 (x := cos.getD (kk sz p) 0) (by omega) (by omega), w64 (x := sin.getD (kk sz p) 0) (by omega) (by omega), w64 (x := -1 * sin.getD (kk sz p) 0) (by omega) (by omega), F_ref10_both_eq]
      rw [show (-1 * sin.getD (kk sz p) 0) = - sin.getD (kk sz p) 0 by omega, Int.mul_neg, Int.mul_neg]
      rw [w64 (x := x.getD (2 * p) 0 * cos.getD (kk sz p) 0) (by omega) (by omega), w64 (x := -(x.getD (2 * p + 1) 0 * sin.getD (kk sz p) 0)) (by omega) (by omega), w64 (x := x.getD (2 * p + 1) 0 * cos.getD (kk sz p) 0) (by omega) (by omega), w64 (x := -(x.getD (2 * p) 0 * sin.getD (kk sz p) 0)) (by omega) (by omega)]
      rw [show x.getD (2 * p) 0 * cos.getD (kk sz p) 0 + -(x.getD (2 * p + 1) 0 * sin.getD (kk sz p) 0) = x.getD (2 * p) 0 * cos.getD (kk sz p) 0 - x.getD (2 * p + 1) 0 * sin.getD (kk sz p) 0 by omega,
        show x.getD (2 * p + 1) 0 * cos.getD (kk sz p) 0 - -(x.getD (2 * p) 0 * sin.getD (kk sz p) 0) = x.getD (2 * p) 0 * sin.getD (kk sz p) 0 + x.getD (2 * p + 1) 0 * cos.getD (kk sz p) 0 by omega]
      rw [w64 (x := x.getD (2 * p) 0 * cos.getD (kk sz p) 0 - x.getD (2 * p + 1) 0 * sin.getD (kk sz p) 0) (by omega) (by omega), w64 (x := x.getD (2 * p) 0 * sin.getD (kk sz p) 0 + x.getD (2 * p + 1) 0 * cos.getD (kk sz p) 0) (by omega) (by omega)]
      rw [ref02_Round (by omega) (by omega) (by omega), ref02_Round (by omega) (by omega) (by omega)]
      simp only [Option.bind_some]
      rw [ref02_Narrow, ref02_Narrow]
      simp only [Option.bind_some]
      rw [show narrowI (roundI (x.getD (2 * p) 0 * cos.getD (kk sz p) 0 - x.getD (2 * p + 1) 0 * sin.getD (kk sz p) 0) 6).1 = ropeG x cos sin sz (2 * p) from (ropeG_even _ _ _ _ _).symm,
        show narrowI (roundI (x.getD (2 * p) 0 * sin.getD (kk sz p) 0 + x.getD (2 * p + 1) 0 * cos.getD (kk sz p) 0) 6).1 = ropeG x cos sin sz (2 * p + 1) from (ropeG_odd _ _ _ _ _).symm]
      have happ : app 1 (tab (ropeG x cos sin sz) (2 * p)) [ropeG x cos sin sz (2 * p), ropeG x cos sin sz (2 * p + 1)] = some (tab (ropeG x cos sin sz) (2 * (p + 1))) := by
        unfold app room
        rw [if_pos ⟨by simp; omega, by simp; omega⟩, show 2 * (p + 1) = 2 * p + 1 + 1 by omega, tab_succ, tab_succ]
        simp
      rw [happ]
      simp only [Option.bind_some]
      rw [w64 (by omega) (by omega), show 2 * (p : Int) + 2 = 2 * ((p : Int) + 1) by omega]
    · intro k
      show L_ref10_turned_7 n (k + 1) _ = _
      rw [L_ref10_turned_7_eq, brk_ite, if_neg (by simp; omega), show 2 * (x.length / 2) = x.length by omega]

end Go.Am.Pu
