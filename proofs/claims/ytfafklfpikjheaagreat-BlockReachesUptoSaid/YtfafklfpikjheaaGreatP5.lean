import Derived.Test.YtfafklfpikjheaaGreatP4
set_option linter.unusedVariables false
set_option linter.unusedSimpArgs false
/- Plain laws: soft (layer 11), of what a head hands it. -/
namespace Go.Am.Pu
open Go Go.Am

theorem w8_rng (x : Int) : -128 ≤ IntKind.wrap .i8 x ∧ IntKind.wrap .i8 x ≤ 127 := by
  simp only [IntKind.wrap, IntKind.bits, IntKind.signed, Bool.true_and, decide_eq_true_eq, ge_iff_le]
  split <;> omega
theorem wu64 (x : Int) : IntKind.wrap .u64 x = x % 18446744073709551616 := by
  simp [IntKind.wrap, IntKind.bits, IntKind.signed]

/-- the greatest of the first -/
def mx (l : List Int) : Nat → Int
  | 0 => l.getD 0 0
  | i + 1 => imax (mx l i) (l.getD i 0)
theorem mx_one (l : List Int) : mx l 1 = l.getD 0 0 := by
  show imax (l.getD 0 0) (l.getD 0 0) = _
  unfold imax; split <;> rfl
theorem mx_rng {l : List Int} (h : all64 l) : ∀ i, -9223372036854775808 ≤ mx l i ∧ mx l i ≤ 9223372036854775807
  | 0 => h.at 0
  | i + 1 => by
    have h1 := mx_rng h i
    have h2 := h.at i
    show -9223372036854775808 ≤ imax _ _ ∧ imax _ _ ≤ 9223372036854775807
    unfold imax; split <;> omega
theorem mx_ge {l : List Int} : ∀ i j, j < i → l.getD j 0 ≤ mx l i
  | 0, j, h => by omega
  | i + 1, j, h => by
    show l.getD j 0 ≤ imax (mx l i) (l.getD i 0)
    by_cases hj : j = i
    · subst hj; unfold imax; split <;> omega
    · have := mx_ge (l := l) i j (by omega)
      unfold imax; split <;> omega
theorem mx_is {l : List Int} : ∀ i, 1 ≤ i → ∃ j, j < i ∧ mx l i = l.getD j 0
  | 0, h => by omega
  | 1, _ => ⟨0, by omega, mx_one l⟩
  | i + 2, _ => by
    obtain ⟨j, h1, h2⟩ := mx_is (l := l) (i + 1) (by omega)
    show ∃ j, j < i + 2 ∧ imax (mx l (i + 1)) (l.getD (i + 1) 0) = l.getD j 0
    unfold imax
    split
    · exact ⟨i + 1, by omega, rfl⟩
    · exact ⟨j, by omega, h2⟩

theorem slices_Max {n : Nat} {l : List Int} (h1 : 1 ≤ l.length) (h2 : l.length ≤ 1000000000) (hn : 2000000000 ≤ n) : F_slices_Max_int64 n l = some (mx l l.length) := by
  rw [F_slices_Max_int64_eq]
  simp only [brk_ite, decide_eq_true_eq]
  rw [if_neg (by omega)]
  simp only [Option.bind_some]
  rw [idx_nat (j := 0) (by simp) (by omega)]
  simp only [Option.bind_some]
  have hL := loop_st (L := fun k i m => L_slices_Max_int64_5 n k (l, m, i + 1, ())) (len := l.length - 1) (r := (mx l l.length, ())) (fun i => mx l (i + 1)) ?_ ?_ n (by omega)
  · rw [show 0 + 1 = 1 from rfl, mx_one] at hL
    rw [show (0 : Int) + 1 = 1 from rfl] at hL
    rw [hL]; rfl
  · intro k i hi
    show L_slices_Max_int64_5 n (k + 1) _ = _
    rw [L_slices_Max_int64_5_eq]
    simp only [brk_ite, decide_eq_true_eq]
    rw [if_pos (by omega), idx_nat (j := i + 1) (by simp) (by omega)]
    simp only [Option.bind_some]
    rw [w64 (by omega) (by omega)]
    rfl
  · intro k
    show L_slices_Max_int64_5 n (k + 1) _ = _
    rw [L_slices_Max_int64_5_eq, brk_ite, if_neg (by simp; omega), show l.length - 1 + 1 = l.length by omega]

/-- the weight of a score -/
noncomputable def weightI (m s : Int) : Int := expI (256 * (if s - m < -1099511627776 then -1099511627776 else s - m))
noncomputable def weightsL (l : List Int) : List Int := tab (fun i => weightI (mx l l.length) (l.getD i 0)) l.length

theorem weight_arg {m s : Int} : (-281474976710656 ≤ 256 * (if s - m < -1099511627776 then -1099511627776 else s - m)) ∧ (s ≤ m → 256 * (if s - m < -1099511627776 then -1099511627776 else s - m) ≤ 0) := by
  split <;> omega

theorem soft_Weights {n : Nat} {l : List Int} (hl : all64 l) (h1 : 1 ≤ l.length) (h2 : l.length ≤ 512) (hn : 2000000000 ≤ n) : F_soft_Weights n l = some (weightsL l, 0) := by
  rw [F_soft_Weights_eq]
  simp only [brk_ite, decide_eq_true_eq, beq_iff_eq]
  rw [if_neg (by omega), if_neg (by omega), slices_Max h1 (by omega) hn]
  simp only [Option.bind_some]
  have hL := loop_st (L := fun k i o => L_soft_Weights_6 n k (mx l l.length, o, l, ((l.length : Nat) : Int), i, ())) (len := l.length) (r := (weightsL l, ())) (fun i => tab (fun i => weightI (mx l l.length) (l.getD i 0)) i) ?_ ?_ n (by omega)
  · rw [tab_zero] at hL
    rw [hL]; rfl
  · intro k i hi
    show L_soft_Weights_6 n (k + 1) _ = _
    rw [L_soft_Weights_6_eq]
    simp only [brk_ite, decide_eq_true_eq]
    have b1 := mx_rng hl l.length
    have b2 := hl.at i
    have b3 := mx_ge (l := l) l.length i hi
    have b4 := weight_arg (m := mx l l.length) (s := l.getD i 0)
    rw [if_pos (by omega), idx_getD hi 0]
    simp only [Option.bind_some]
    have e : IntKind.wrap .i64 (-256 * IntKind.wrap .i64 (imin 1099511627776 (IntKind.wrap .u64 (IntKind.wrap .u64 (mx l l.length) - IntKind.wrap .u64 (l.getD i 0))))) = 256 * (if l.getD i 0 - mx l l.length < -1099511627776 then -1099511627776 else l.getD i 0 - mx l l.length) := by
      have e1 : IntKind.wrap .u64 (IntKind.wrap .u64 (mx l l.length) - IntKind.wrap .u64 (l.getD i 0)) = mx l l.length - l.getD i 0 := by
        rw [wu64, wu64, wu64]; omega
      rw [e1]
      unfold imin
      split
      · rw [w64 (x := mx l l.length - l.getD i 0) (by omega) (by omega), w64 (by omega) (by omega), if_neg (by omega)]; omega
      · rw [w64 (x := 1099511627776) (by omega) (by omega), w64 (by omega) (by omega)]
        split <;> omega
    rw [e, fixed_Exp2 (by omega) (by omega) (by omega)]
    simp only [Option.bind_some]
    rw [show expI (256 * (if l.getD i 0 - mx l l.length < -1099511627776 then -1099511627776 else l.getD i 0 - mx l l.length)) = weightI (mx l l.length) (l.getD i 0) from rfl]
    rw [app_tab (fun i => weightI (mx l l.length) (l.getD i 0)) (by unfold room; omega) (by unfold room; omega), w64 (by omega) (by omega)]
    rfl
  · intro k
    show L_soft_Weights_6 n (k + 1) _ = _
    rw [L_soft_Weights_6_eq, brk_ite, if_neg (by simp)]
    rfl

theorem ref11_distance {n : Nat} {s m : Int} (hs1 : -9223372036854775808 ≤ s) (hm2 : m ≤ 9223372036854775807) (hle : s ≤ m) : F_ref11_distance n (s, m) = some (if s - m < -1099511627776 then -1099511627776 else s - m) := by
  rw [F_ref11_distance_eq]
  simp only [brk_ite, decide_eq_true_eq]
  by_cases a1 : s < 0
  · rw [if_pos a1]
    by_cases a2 : m ≥ 0
    · rw [if_pos a2]
      by_cases a3 : m > 1099511627776
      · rw [if_pos a3, if_pos (by omega)]
      · rw [if_neg a3]
        by_cases a4 : s < -1099511627776
        · rw [if_pos a4, if_pos (by omega)]
        · rw [if_neg a4, w64 (by omega) (by omega)]
          split <;> rfl
    · rw [if_neg a2, w64 (by omega) (by omega)]
      split <;> rfl
  · rw [if_neg a1, w64 (by omega) (by omega)]
    split <;> rfl

theorem ref11_Weights {n : Nat} {l : List Int} (hl : all64 l) (h1 : 1 ≤ l.length) (h2 : l.length ≤ 512) (hn : 2000000000 ≤ n) : F_ref11_Weights n l = some (weightsL l, 0) := by
  rw [F_ref11_Weights_eq]
  simp only [brk_ite, decide_eq_true_eq]
  rw [if_neg (by omega), if_neg (by omega), idx_nat (j := 0) (by simp) (by omega)]
  simp only [Option.bind_some]
  have hM := loop_st (L := fun k i m => L_ref11_Weights_5 n k (l, m, i, ())) (len := l.length) (r := (l, mx l l.length, ())) (fun i => mx l i) ?_ ?_ n (by omega)
  · rw [show mx l 0 = l.getD 0 0 from rfl] at hM
    rw [hM]
    simp only [Option.bind_some]
    have hL := loop_st (L := fun k i o => L_ref11_Weights_11 n k (l, mx l l.length, o, i, ())) (len := l.length) (r := (weightsL l, ())) (fun i => tab (fun i => weightI (mx l l.length) (l.getD i 0)) i) ?_ ?_ n (by omega)
    · rw [tab_zero] at hL
      rw [hL]; rfl
    · intro k i hi
      show L_ref11_Weights_11 n (k + 1) _ = _
      rw [L_ref11_Weights_11_eq]
      simp only [brk_ite, decide_eq_true_eq]
      have b1 := mx_rng hl l.length
      have b2 := hl.at i
      have b3 := mx_ge (l := l) l.length i hi
      have b4 := weight_arg (m := mx l l.length) (s := l.getD i 0)
      rw [if_pos (by omega), idx_getD hi 0]
      simp only [Option.bind_some]
      rw [ref11_distance b2.1 b1.2 b3]
      simp only [Option.bind_some]
      rw [w64 (x := 256 * _) (by omega) (by omega), ref02_Exp2 (by omega) (by omega) (by omega)]
      simp only [Option.bind_some]
      rw [show expI (256 * (if l.getD i 0 - mx l l.length < -1099511627776 then -1099511627776 else l.getD i 0 - mx l l.length)) = weightI (mx l l.length) (l.getD i 0) from rfl]
      rw [app_tab (fun i => weightI (mx l l.length) (l.getD i 0)) (by unfold room; omega) (by unfold room; omega), w64 (by omega) (by omega)]
      rfl
    · intro k
      show L_ref11_Weights_11 n (k + 1) _ = _
      rw [L_ref11_Weights_11_eq, brk_ite, if_neg (by simp)]
      rfl
  · intro k i hi
    show L_ref11_Weights_5 n (k + 1) _ = _
    rw [L_ref11_Weights_5_eq]
    simp only [brk_ite, decide_eq_true_eq]
    rw [if_pos (by omega), idx_getD hi 0]
    simp only [Option.bind_some]
    have e : (if l.getD i 0 > mx l i then some (l, l.getD i 0, (i : Int), ()) else some (l, mx l i, (i : Int), ())) = some (l, mx l (i + 1), (i : Int), ()) := by
      show _ = some (l, imax (mx l i) (l.getD i 0), (i : Int), ())
      unfold imax
      split <;> rfl
    rw [e]
    simp only [Option.bind_some]
    rw [w64 (by omega) (by omega)]
  · intro k
    show L_ref11_Weights_5 n (k + 1) _ = _
    rw [L_ref11_Weights_5_eq, brk_ite, if_neg (by simp)]

/-- weights of which a mean is made -/
structure Good (w : List Int) : Prop where
  len : 1 ≤ w.length ∧ w.length ≤ 512
  rng : ∀ i, 0 ≤ w.getD i 0 ∧ w.getD i 0 ≤ 1073741824
  pos : 0 < sumN (fun i => w.getD i 0) w.length

theorem sumN_ge {g : Nat → Int} : ∀ (n j : Nat), (∀ i, 0 ≤ g i) → j < n → g j ≤ sumN g n
  | 0, j, _, h => by omega
  | n + 1, j, h0, h => by
    have hs : ∀ m : Nat, 0 ≤ sumN g m := by
      intro m
      induction m with
      | zero => exact Int.le_refl _
      | succ m ih => have := h0 m; simp only [sumN]; omega
    simp only [sumN]
    by_cases hj : j = n
    · subst hj; have := hs j; omega
    · have := sumN_ge n j h0 (by omega)
      have := h0 n
      omega

theorem weightsL_good {l : List Int} (h1 : 1 ≤ l.length) (h2 : l.length ≤ 512) : Good (weightsL l) := by
  have hr : ∀ i, 0 ≤ (weightsL l).getD i 0 ∧ (weightsL l).getD i 0 ≤ 1073741824 := by
    intro i
    by_cases hi : i < l.length
    · unfold weightsL; rw [tab_getD _ hi]; exact expI_rng _
    · rw [List.getD_eq_getElem?_getD, List.getElem?_eq_none (by simp [weightsL]; omega)]; decide
  refine ⟨by simp [weightsL]; omega, hr, ?_⟩
  obtain ⟨j, hj, hm⟩ := mx_is (l := l) l.length h1
  have h3 := sumN_ge (g := fun i => (weightsL l).getD i 0) (weightsL l).length j (fun i => (hr i).1) (by simp [weightsL]; omega)
  have h4 : (weightsL l).getD j 0 = 1073741824 := by
    unfold weightsL
    rw [tab_getD _ hj, hm]
    unfold weightI
    rw [Int.sub_self, if_neg (by omega)]
    exact expI_zero
  have h3 : (weightsL l).getD j 0 ≤ sumN (fun i => (weightsL l).getD i 0) (weightsL l).length := h3
  omega

theorem good_sum {w : List Int} (hw : Good w) (i : Nat) : 0 ≤ sumN (fun i => w.getD i 0) i ∧ sumN (fun i => w.getD i 0) i ≤ i * 1073741824 :=
  sumN_rng' i fun j _ => hw.rng j

theorem soft_total {n : Nat} {w : List Int} (hw : Good w) (hn : 2000000000 ≤ n) : F_soft_total n w = some (sumN (fun i => w.getD i 0) w.length, 0) := by
  rw [F_soft_total_eq]
  have hlen := hw.len
  have hL := loop_st (L := fun k i s => L_soft_total_3 n k (s, w, ((w.length : Nat) : Int), i, ())) (len := w.length) (r := Sum.inr (sumN (fun i => w.getD i 0) w.length, ())) (fun i => sumN (fun i => w.getD i 0) i) ?_ ?_ n (by omega)
  · rw [show sumN (fun i => w.getD i 0) 0 = 0 from rfl] at hL
    rw [hL]
    have hp := hw.pos
    simp only [Option.bind_some, sumk, brk_ite, beq_iff_eq]
    rw [if_neg (by omega)]
  · intro k i hi
    show L_soft_total_3 n (k + 1) _ = _
    rw [L_soft_total_3_eq]
    simp only [brk_ite, decide_eq_true_eq]
    have b1 := hw.rng i
    have b2 := good_sum hw i
    rw [if_pos (by omega), idx_getD hi 0]
    simp only [Option.bind_some]
    rw [if_neg (by omega), if_neg (by omega), w64 (by omega) (by omega), w64 (by omega) (by omega)]
    rfl
  · intro k
    show L_soft_total_3 n (k + 1) _ = _
    rw [L_soft_total_3_eq, brk_ite, if_neg (by simp)]

theorem ref11_good {n : Nat} {w : List Int} (hw : Good w) (hn : 2000000000 ≤ n) : F_ref11_good n w = some (sumN (fun i => w.getD i 0) w.length, true) := by
  rw [F_ref11_good_eq]
  have hlen := hw.len
  have hL := loop_st (L := fun k i s => L_ref11_good_3 n k (w, s, i, ())) (len := w.length) (r := Sum.inr (sumN (fun i => w.getD i 0) w.length, ())) (fun i => sumN (fun i => w.getD i 0) i) ?_ ?_ n (by omega)
  · rw [show sumN (fun i => w.getD i 0) 0 = 0 from rfl] at hL
    rw [hL]
    have hp := hw.pos
    simp only [Option.bind_some, sumk]
    rw [show decide (sumN (fun i => w.getD i 0) w.length > 0) = true by simpa using hp]
  · intro k i hi
    show L_ref11_good_3 n (k + 1) _ = _
    rw [L_ref11_good_3_eq]
    simp only [brk_ite, decide_eq_true_eq]
    have b1 := hw.rng i
    have b2 := good_sum hw i
    rw [if_pos (by omega), idx_getD hi 0]
    simp only [Option.bind_some]
    rw [if_neg (by omega), if_neg (by omega), w64 (by omega) (by omega), w64 (by omega) (by omega)]
    rfl
  · intro k
    show L_ref11_good_3 n (k + 1) _ = _
    rw [L_ref11_good_3_eq, brk_ite, if_neg (by simp)]

def prodN (w v : List Int) (i : Nat) : Int := sumN (fun i => w.getD i 0 * v.getD i 0) i
/-- the mean -/
def meanI (w v : List Int) : Int := IntKind.wrap .i8 ((2 * prodN w v w.length + sumN (fun i => w.getD i 0) w.length) / (2 * sumN (fun i => w.getD i 0) w.length))

theorem prod_at {w v : List Int} (hw : Good w) (hv : all8 v) (i : Nat) : -137438953472 ≤ w.getD i 0 * v.getD i 0 ∧ w.getD i 0 * v.getD i 0 ≤ 137438953472 := by
  have b1 := hw.rng i
  have b2 := hv.at i
  have := mul_rng (a := w.getD i 0) (b := v.getD i 0) (m := 1073741824) (k := 128) (by omega) (by omega)
  omega
theorem prod_rng {w v : List Int} (hw : Good w) (hv : all8 v) (i : Nat) : -(i * 137438953472) ≤ prodN w v i ∧ prodN w v i ≤ i * 137438953472 :=
  sumN_rng (by omega) (fun i => prod_at hw hv i) i

theorem soft_Mean {n : Nat} {w v : List Int} (hw : Good w) (hv : all8 v) (hl : w.length = v.length) (hn : 2000000000 ≤ n) : F_soft_Mean n (w, v) = some (meanI w v, 0) := by
  rw [F_soft_Mean_eq]
  have hlen := hw.len
  have hp := hw.pos
  have hs := good_sum hw w.length
  simp only [brk_ite, decide_eq_true_eq, bne_iff_ne, ne_eq]
  rw [if_neg (by omega), if_neg (by omega), soft_total hw hn]
  simp only [Option.bind_some]
  rw [if_neg (by simp)]
  have hL := loop_st (L := fun k i s => L_soft_Mean_8 n k (v, sumN (fun i => w.getD i 0) w.length, s, w, ((w.length : Nat) : Int), i, ())) (len := w.length) (r := (sumN (fun i => w.getD i 0) w.length, prodN w v w.length, ())) (fun i => prodN w v i) ?_ ?_ n (by omega)
  · rw [show prodN w v 0 = 0 from rfl] at hL
    rw [hL]
    have hq := prod_rng hw hv w.length
    simp only [Option.bind_some]
    rw [w64 (x := 2 * prodN w v w.length) (by omega) (by omega), w64 (x := 2 * prodN w v w.length + _) (by omega) (by omega), w64 (x := 2 * sumN (fun i => w.getD i 0) w.length) (by omega) (by omega), fixed_Floor (by omega) (by omega) (by omega) (by omega)]
    rfl
  · intro k i hi
    show L_soft_Mean_8 n (k + 1) _ = _
    rw [L_soft_Mean_8_eq]
    simp only [brk_ite, decide_eq_true_eq]
    have b1 := prod_at hw hv i
    have b2 := prod_rng hw hv i
    have b3 := hv.at i
    rw [if_pos (by omega), idx_getD hi 0, idx_getD (show i < v.length by omega) 0]
    simp only [Option.bind_some]
    rw [w64 (x := v.getD i 0) (by omega) (by omega), w64 (x := w.getD i 0 * v.getD i 0) (by omega) (by omega), w64 (by omega) (by omega), w64 (by omega) (by omega)]
    rfl
  · intro k
    show L_soft_Mean_8 n (k + 1) _ = _
    rw [L_soft_Mean_8_eq, brk_ite, if_neg (by simp)]

theorem ref11_Mean {n : Nat} {w v : List Int} (hw : Good w) (hv : all8 v) (hl : w.length = v.length) (hn : 2000000000 ≤ n) : F_ref11_Mean n (w, v) = some (meanI w v, 0) := by
  rw [F_ref11_Mean_eq]
  have hlen := hw.len
  have hp := hw.pos
  have hs := good_sum hw w.length
  simp only [brk_ite, decide_eq_true_eq, bne_iff_ne, ne_eq]
  rw [if_neg (by omega), if_neg (by omega), ref11_good hw hn]
  simp only [Option.bind_some]
  rw [if_neg (by simp)]
  have hL := loop_st (L := fun k i s => L_ref11_Mean_8 n k (w, v, sumN (fun i => w.getD i 0) w.length, s, i, ())) (len := w.length) (r := (sumN (fun i => w.getD i 0) w.length, prodN w v w.length, ())) (fun i => prodN w v i) ?_ ?_ n (by omega)
  · rw [show prodN w v 0 = 0 from rfl] at hL
    rw [hL]
    have hq := prod_rng hw hv w.length
    simp only [Option.bind_some]
    rw [w64 (x := 2 * prodN w v w.length) (by omega) (by omega), w64 (x := 2 * prodN w v w.length + _) (by omega) (by omega), w64 (x := 2 * sumN (fun i => w.getD i 0) w.length) (by omega) (by omega), ref02_Floor (by omega) (by omega) (by omega) (by omega)]
    rfl
  · intro k i hi
    show L_ref11_Mean_8 n (k + 1) _ = _
    rw [L_ref11_Mean_8_eq]
    simp only [brk_ite, decide_eq_true_eq]
    have b1 := prod_at hw hv i
    have b2 := prod_rng hw hv i
    have b3 := hv.at i
    rw [if_pos (by omega), idx_getD hi 0, idx_getD (show i < v.length by omega) 0]
    simp only [Option.bind_some]
    rw [w64 (x := v.getD i 0) (by omega) (by omega), w64 (x := w.getD i 0 * v.getD i 0) (by omega) (by omega), w64 (by omega) (by omega), w64 (by omega) (by omega)]
    rfl
  · intro k
    show L_ref11_Mean_8 n (k + 1) _ = _
    rw [L_ref11_Mean_8_eq, brk_ite, if_neg (by simp)]

/-- rows of one length -/
structure Rows (rows : List (List Int)) (m : Nat) : Prop where
  len : 1 ≤ rows.length ∧ rows.length ≤ 512
  row : ∀ i, i < rows.length → (rows.getD i []).length = m
  all : ∀ i, all8 (rows.getD i [])
def colI (rows : List (List Int)) (c : Nat) : List Int := tab (fun i => (rows.getD i []).getD c 0) rows.length
def meansL (w : List Int) (rows : List (List Int)) (m : Nat) : List Int := tab (fun c => meanI w (colI rows c)) m

theorem colI_all {rows : List (List Int)} {m c : Nat} (h : Rows rows m) : all8 (colI rows c) := by
  intro x hx
  obtain ⟨i, hi, rfl⟩ := tab_mem hx
  exact (h.all i).at c

theorem soft_Means {n : Nat} {w : List Int} {rows : List (List Int)} {m : Nat} (hw : Good w) (hr : Rows rows m) (hl : w.length = rows.length) (hm : m ≤ 1000000) (hn : 2000000000 ≤ n) : F_soft_Means n (w, rows) = some (meansL w rows m, 0) := by
  rw [F_soft_Means_eq]
  have hlen := hw.len
  simp only [brk_ite, decide_eq_true_eq, bne_iff_ne, ne_eq]
  rw [if_neg (by omega), if_neg (by omega)]
  have h0 : idx rows (0 : Int) = some (rows.getD 0 []) := by rw [show (0 : Int) = ((0 : Nat) : Int) from rfl, idx_getD (by omega) []]
  have hA := loop_st (L := fun k i (_ : Unit) => L_soft_Means_4 n k (w, rows, rows, ((rows.length : Nat) : Int), i, ())) (len := rows.length) (r := Sum.inr (w, rows, ())) (fun _ => ()) ?_ ?_ n (by omega)
  · rw [hA]
    simp only [Option.bind_some, sumk]
    rw [soft_total hw hn]
    simp only [Option.bind_some]
    rw [if_neg (by simp), h0]
    simp only [Option.bind_some]
    rw [hr.row 0 (by omega)]
    have hB := loop_st (L := fun k i o => L_soft_Means_14 n k (w, rows, o, ((m : Nat) : Int), i, ())) (len := m) (r := (meansL w rows m, ())) (fun i => tab (fun c => meanI w (colI rows c)) i) ?_ ?_ n (by omega)
    · rw [tab_zero] at hB
      rw [hB]; rfl
    · intro k c hc
      show L_soft_Means_14 n (k + 1) _ = _
      rw [L_soft_Means_14_eq]
      simp only [brk_ite, decide_eq_true_eq]
      rw [if_pos (by omega)]
      have hC := loop_st (L := fun k i o => L_soft_Means_18 n k (w, rows, tab (fun c => meanI w (colI rows c)) c, (c : Int), o, ((m : Nat) : Int), (c : Int), rows, ((rows.length : Nat) : Int), i, ())) (len := rows.length) (r := (w, rows, tab (fun c => meanI w (colI rows c)) c, colI rows c, ((m : Nat) : Int), (c : Int), ())) (fun i => tab (fun i => (rows.getD i []).getD c 0) i) ?_ ?_ n (by omega)
      · rw [tab_zero] at hC
        rw [hC]
        simp only [Option.bind_some]
        rw [soft_Mean hw (colI_all hr) (by simp [colI]; omega) hn]
        simp only [Option.bind_some]
        rw [app_tab (fun c => meanI w (colI rows c)) (by unfold room; omega) (by unfold room; omega), w64 (by omega) (by omega)]
        rfl
      · intro k i hi
        show L_soft_Means_18 n (k + 1) _ = _
        rw [L_soft_Means_18_eq]
        simp only [brk_ite, decide_eq_true_eq]
        rw [if_pos (by omega), idx_getD hi []]
        simp only [Option.bind_some]
        rw [idx_getD (show c < (rows.getD i []).length by rw [hr.row i hi]; exact hc) 0]
        simp only [Option.bind_some]
        rw [app_tab (fun i => (rows.getD i []).getD c 0) (by unfold room; omega) (by unfold room; omega), w64 (by omega) (by omega)]
        rfl
      · intro k
        show L_soft_Means_18 n (k + 1) _ = _
        rw [L_soft_Means_18_eq, brk_ite, if_neg (by simp)]
        rfl
    · intro k
      show L_soft_Means_14 n (k + 1) _ = _
      rw [L_soft_Means_14_eq, brk_ite, if_neg (by simp)]
      rfl
  · intro k i hi
    show L_soft_Means_4 n (k + 1) _ = _
    rw [L_soft_Means_4_eq]
    simp only [brk_ite, decide_eq_true_eq, bne_iff_ne, ne_eq]
    rw [if_pos (by omega), idx_getD hi [], h0]
    simp only [Option.bind_some]
    rw [hr.row i hi, hr.row 0 (by omega), if_neg (by simp), w64 (by omega) (by omega)]
  · intro k
    show L_soft_Means_4 n (k + 1) _ = _
    rw [L_soft_Means_4_eq, brk_ite, if_neg (by simp)]

theorem ref11_Means {n : Nat} {w : List Int} {rows : List (List Int)} {m : Nat} (hw : Good w) (hr : Rows rows m) (hl : w.length = rows.length) (hm : m ≤ 1000000) (hn : 2000000000 ≤ n) : F_ref11_Means n (w, rows) = some (meansL w rows m, 0) := by
  rw [F_ref11_Means_eq]
  have hlen := hw.len
  simp only [brk_ite, decide_eq_true_eq, bne_iff_ne, ne_eq]
  rw [if_neg (by omega), if_neg (by omega)]
  have h0 : idx rows (0 : Int) = some (rows.getD 0 []) := by rw [show (0 : Int) = ((0 : Nat) : Int) from rfl, idx_getD (by omega) []]
  have hA := loop_st (L := fun k i (_ : Unit) => L_ref11_Means_4 n k (w, rows, i, ())) (len := rows.length) (r := Sum.inr (w, rows, ())) (fun _ => ()) ?_ ?_ n (by omega)
  · rw [hA]
    simp only [Option.bind_some, sumk]
    rw [ref11_good hw hn]
    simp only [Option.bind_some]
    rw [if_neg (by simp)]
    have hB := loop_st (L := fun k i o => L_ref11_Means_13 n k (w, rows, o, i, ())) (len := m) (r := (meansL w rows m, ())) (fun i => tab (fun c => meanI w (colI rows c)) i) ?_ ?_ n (by omega)
    · rw [tab_zero] at hB
      rw [hB]; rfl
    · intro k c hc
      show L_ref11_Means_13 n (k + 1) _ = _
      rw [L_ref11_Means_13_eq, h0]
      simp only [brk_ite, decide_eq_true_eq, Option.bind_some]
      rw [hr.row 0 (by omega), if_pos (by omega)]
      have hC := loop_st (L := fun k i o => L_ref11_Means_17 n k (w, rows, tab (fun c => meanI w (colI rows c)) c, (c : Int), o, i, ())) (len := rows.length) (r := (w, rows, tab (fun c => meanI w (colI rows c)) c, (c : Int), colI rows c, ())) (fun i => tab (fun i => (rows.getD i []).getD c 0) i) ?_ ?_ n (by omega)
      · rw [tab_zero] at hC
        rw [hC]
        simp only [Option.bind_some]
        rw [ref11_Mean hw (colI_all hr) (by simp [colI]; omega) hn]
        simp only [Option.bind_some]
        rw [app_tab (fun c => meanI w (colI rows c)) (by unfold room; omega) (by unfold room; omega), w64 (by omega) (by omega)]
        rfl
      · intro k i hi
        show L_ref11_Means_17 n (k + 1) _ = _
        rw [L_ref11_Means_17_eq]
        simp only [brk_ite, decide_eq_true_eq]
        rw [if_pos (by omega), idx_getD hi []]
        simp only [Option.bind_some]
        rw [idx_getD (show c < (rows.getD i []).length by rw [hr.row i hi]; exact hc) 0]
        simp only [Option.bind_some]
        rw [app_tab (fun i => (rows.getD i []).getD c 0) (by unfold room; omega) (by unfold room; omega), w64 (by omega) (by omega)]
        rfl
      · intro k
        show L_ref11_Means_17 n (k + 1) _ = _
        rw [L_ref11_Means_17_eq, brk_ite, if_neg (by simp)]
        rfl
    · intro k
      show L_ref11_Means_13 n (k + 1) _ = _
      rw [L_ref11_Means_13_eq, h0]
      simp only [Option.bind_some]
      rw [hr.row 0 (by omega), brk_ite, if_neg (by simp)]
      rfl
  · intro k i hi
    show L_ref11_Means_4 n (k + 1) _ = _
    rw [L_ref11_Means_4_eq]
    simp only [brk_ite, decide_eq_true_eq, bne_iff_ne, ne_eq]
    rw [if_pos (by omega), idx_getD hi [], h0]
    simp only [Option.bind_some]
    rw [hr.row i hi, hr.row 0 (by omega), if_neg (by simp), w64 (by omega) (by omega)]
  · intro k
    show L_ref11_Means_4 n (k + 1) _ = _
    rw [L_ref11_Means_4_eq, brk_ite, if_neg (by simp)]

end Go.Am.Pu

/- Plain laws: act (layer 12). -/
namespace Go.Am.Pu
open Go Go.Am

theorem nearI_rng {x d : Int} (hx1 : -9223372036854775808 ≤ x) (hx2 : x ≤ 9223372036854775807) (hd : 1 ≤ d) : -9223372036854775808 ≤ nearI x d ∧ nearI x d ≤ 9223372036854775807 := by
  have h1 := ediv_rng (x := x) hd
  have h2 := near_up hx1 hx2 hd
  unfold nearI
  split
  · exact h2 (by omega)
  · omega
theorem roundI_rng {x s : Int} (hx1 : -9223372036854775808 ≤ x) (hx2 : x ≤ 9223372036854775807) : -9223372036854775808 ≤ (roundI x s).1 ∧ (roundI x s).1 ≤ 9223372036854775807 := by
  unfold roundI
  split
  · exact ⟨by decide, by decide⟩
  · exact nearI_rng hx1 hx2 (pow_rng (by omega)).1
theorem scaleI_all {l : List Int} {s : Int} (hl : all64 l) : all64 (scaleI l s).1 := by
  unfold scaleI
  split
  · exact fun x hx => (by cases hx)
  · split
    · exact fun x hx => (by cases hx)
    · intro x hx
      obtain ⟨y, hy, rfl⟩ := List.mem_map.1 hx
      exact roundI_rng (hl y hy).1 (hl y hy).2
/-- numbers brought to 8 bits: none is -128 -/
def all7 (l : List Int) : Prop := ∀ x ∈ l, -127 ≤ x ∧ x ≤ 127
theorem all7.all8 {l : List Int} (h : all7 l) : all8 l := fun x hx => by have := h x hx; omega
theorem shrinkI_all {l : List Int} {s : Int} : all7 (shrinkI l s).1 := by
  intro x hx
  obtain ⟨y, _, rfl⟩ := List.mem_map.1 hx
  exact narrowI_rng y
theorem shrinkI_len {l : List Int} {s : Int} : (shrinkI l s).1.length ≤ 1048576 := by
  have := (scaleI_len (l := l) (s := s)).1
  simpa [shrinkI] using this
theorem timesL_all {w x : List Int} {c : Nat} (hw : all8 w) (hx : all8 x) (hl : w.length ≤ 1048576) : all64 (timesL w c x) := by
  intro y hy
  obtain ⟨j, hj, rfl⟩ := tab_mem hy
  have h1 := dotI_rng (hw.sub (j * c) c) hx
  have h2 : (rowN w c j).length ≤ w.length := by simp [rowN]; omega
  unfold rowN at h2
  show -9223372036854775808 ≤ dotI ((w.drop (j * c)).take c) x ∧ dotI ((w.drop (j * c)).take c) x ≤ 9223372036854775807
  omega
theorem timesI_all {w x : List Int} {cols : Int} (hw : all8 w) (hx : all8 x) : all64 (timesI w cols x).1 := by
  unfold timesI
  split
  · exact fun x hx => (by cases hx)
  · rename_i h
    split
    · exact fun x hx => (by cases hx)
    · exact timesL_all hw hx (matI_zero (w := w) (cols := cols) (by omega)).1
theorem timesI_len {w x : List Int} {cols : Int} : (timesI w cols x).1.length ≤ 1048576 := by
  unfold timesI
  split
  · simp
  · rename_i h
    split
    · simp
    · have h1 := (matI_zero (w := w) (cols := cols) (by omega)).1
      have h2 := Nat.div_le_self w.length cols.toNat
      simp [timesL]; omega

/-- a row through a matrix, in 8 bits -/
def throughI (w h : List Int) (s : Int) : List Int × Int := if (timesI w (h.length : Int) h).2 ≠ 0 then ([], (timesI w (h.length : Int) h).2) else shrinkI (timesI w (h.length : Int) h).1 s
theorem throughI_all {w h : List Int} {s : Int} : all7 (throughI w h s).1 := by
  unfold throughI
  split
  · exact fun x hx => (by cases hx)
  · exact shrinkI_all
theorem throughI_len {w h : List Int} {s : Int} : (throughI w h s).1.length ≤ 1048576 := by
  unfold throughI
  split
  · simp
  · exact shrinkI_len

theorem act_through {n : Nat} {w h : List Int} {s : Int} (hw : all8 w) (hh : all8 h) (hl : h.length ≤ 1000000000) (hn : 2000000000 ≤ n) : F_act_through n (w, h, s) = some (throughI w h s) := by
  rw [F_act_through_eq, vec_Times hw hh hl hn]
  unfold throughI
  simp only [Option.bind_some, brk_ite, bne_iff_ne]
  split
  · rfl
  · rw [vec_Shrink (timesI_all hw hh) hn]; rfl
theorem ref12_shrunk {n : Nat} {w h : List Int} {s : Int} (hw : all8 w) (hh : all8 h) (hn : 2000000000 ≤ n) : F_ref12_shrunk n (w, h, s) = some (throughI w h s) := by
  rw [F_ref12_shrunk_eq, ref08_Times hw hh hn]
  unfold throughI
  simp only [Option.bind_some, brk_ite, bne_iff_ne]
  split
  · rfl
  · rw [ref08_Shrink (timesI_all hw hh) hn]; rfl

def gateAt (bend gate up : List Int) (i : Nat) : Int := narrowI (roundI (bend.getD ((gate.getD i 0) % 256).toNat 0 * up.getD i 0) 6).1
def gateI (bend gate up : List Int) : List Int × Int :=
  if bend.length ≠ 256 then ([], 120) else if gate.length > 1048576 ∨ up.length > 1048576 then ([], 81) else if gate.length ≠ up.length then ([], 80) else (tab (gateAt bend gate up) gate.length, 0)

theorem gate_head {bend gate up : List Int} {K : Option (List Int × Int)} (hK : bend.length = 256 → gate.length ≤ 1048576 → gate.length = up.length → K = some (tab (gateAt bend gate up) gate.length, 0)) :
    (brk ((((List.length bend) : Nat) : Int) != (256 : Int))
      (some ([], (120 : Int)))
      (brk (decide ((((List.length gate) : Nat) : Int) > (1048576 : Int)))
        (some ([], (81 : Int)))
        (brk (decide ((((List.length up) : Nat) : Int) > (1048576 : Int)))
          (some ([], (81 : Int)))
          (brk ((((List.length gate) : Nat) : Int) != (((List.length up) : Nat) : Int))
            (some ([], (80 : Int))) K)))) = some (gateI bend gate up) := by
  unfold gateI
  simp only [brk_ite, decide_eq_true_eq, bne_iff_ne, ne_eq]
  by_cases h1 : bend.length = 256
  · rw [if_neg (by omega), if_neg (show ¬ ¬ bend.length = 256 by omega)]
    by_cases h2 : gate.length > 1048576
    · rw [if_pos (by omega), if_pos (.inl h2)]
    · rw [if_neg (by omega)]
      by_cases h3 : up.length > 1048576
      · rw [if_pos (by omega), if_pos (.inr h3)]
      · rw [if_neg (by omega), if_neg (show ¬ (gate.length > 1048576 ∨ up.length > 1048576) by omega)]
        by_cases h4 : gate.length = up.length
        · rw [if_neg (by omega), if_neg (show ¬ ¬ gate.length = up.length by omega)]
          exact hK h1 (by omega) h4
        · rw [if_pos (by omega), if_pos h4]
  · rw [if_pos (by omega), if_pos h1]

theorem act_Gate {n : Nat} {bend gate up : List Int} (hb : all8 bend) (hg : all8 gate) (hu : all8 up) (hn : 2000000000 ≤ n) : F_act_Gate n (bend, gate, up) = some (gateI bend gate up) := by
  rw [F_act_Gate_eq]
  refine gate_head fun h1 h2 h3 => ?_
  have hm : mkn 1 (gate.length : Int) = some gate.length := by
    unfold mkn room
    rw [if_pos ⟨by omega, by omega, by omega⟩]; simp
  rw [hm]
  simp only [Option.bind_some]
  have hL := loop_st (L := fun k i o => L_act_Gate_9 n k (bend, up, (), gate, ((gate.length : Nat) : Int), i, o, ())) (len := gate.length) (r := ((), tab (gateAt bend gate up) gate.length, ())) (fun i => fill (gateAt bend gate up) 0 gate.length i) ?_ ?_ n (by omega)
  · rw [fill_zero] at hL
    rw [hL]; rfl
  · intro k i hi
    show L_act_Gate_9 n (k + 1) _ = _
    rw [L_act_Gate_9_eq]
    simp only [brk_ite, decide_eq_true_eq]
    have b1 := hg.at i
    have b2 := hu.at i
    have b3 := hb.at ((gate.getD i 0) % 256).toNat
    have m1 := mul8 b3 b2
    rw [if_pos (by omega), idx_getD hi 0]
    simp only [Option.bind_some]
    have hw : IntKind.wrap .u8 (gate.getD i 0) = (((gate.getD i 0) % 256).toNat : Int) := by
      have : IntKind.wrap .u8 (gate.getD i 0) = (gate.getD i 0) % 256 := by simp [IntKind.wrap, IntKind.bits, IntKind.signed]
      rw [this]; omega
    rw [hw, idx_getD (l := bend) (by omega) 0]
    simp only [Option.bind_some]
    rw [idx_getD (show i < up.length by omega) 0]
    simp only [Option.bind_some]
    rw [w64 (x := bend.getD ((gate.getD i 0) % 256).toNat 0) (by omega) (by omega), w64 (x := up.getD i 0) (by omega) (by omega), w64 (x := bend.getD ((gate.getD i 0) % 256).toNat 0 * up.getD i 0) (by omega) (by omega), F_act_narrow_eq, fixed_Round (by omega) (by omega)]
    simp only [Option.bind_some]
    rw [fixed_Narrow]
    simp only [Option.bind_some]
    rw [ck_fill _ _ hi]
    simp only [Option.bind_some]
    rw [get_fill _ _ hi, w64 (by omega) (by omega)]
    simp only [Option.bind_some]
    rw [show narrowI (roundI (bend.getD ((gate.getD i 0) % 256).toNat 0 * up.getD i 0) 6).1 = gateAt bend gate up i from rfl, fill_set _ _ hi]
  · intro k
    show L_act_Gate_9 n (k + 1) _ = _
    rw [L_act_Gate_9_eq, brk_ite, if_neg (by simp), fill_end]

theorem ref12_Gate {n : Nat} {bend gate up : List Int} (hb : all8 bend) (hg : all8 gate) (hu : all8 up) (hn : 2000000000 ≤ n) : F_ref12_Gate n (bend, gate, up) = some (gateI bend gate up) := by
  rw [F_ref12_Gate_eq]
  refine gate_head fun h1 h2 h3 => ?_
  have hL := loop_st (L := fun k i o => L_ref12_Gate_9 n k (bend, up, o, gate, ((gate.length : Nat) : Int), i, ())) (len := gate.length) (r := (tab (gateAt bend gate up) gate.length, ())) (fun i => tab (gateAt bend gate up) i) ?_ ?_ n (by omega)
  · rw [tab_zero] at hL
    rw [hL]; rfl
  · intro k i hi
    show L_ref12_Gate_9 n (k + 1) _ = _
    rw [L_ref12_Gate_9_eq]
    simp only [brk_ite, decide_eq_true_eq]
    have b1 := hg.at i
    have b2 := hu.at i
    have b3 := hb.at ((gate.getD i 0) % 256).toNat
    have m1 := mul8 b3 b2
    rw [if_pos (by omega), idx_getD hi 0]
    simp only [Option.bind_some]
    rw [w64 (x := gate.getD i 0) (by omega) (by omega)]
    have e1 : (if gate.getD i 0 < 0 then some (bend, up, tab (gateAt bend gate up) i, (i : Int), IntKind.wrap .i64 (gate.getD i 0 + 256), gate, ((gate.length : Nat) : Int), (i : Int), ()) else some (bend, up, tab (gateAt bend gate up) i, (i : Int), gate.getD i 0, gate, ((gate.length : Nat) : Int), (i : Int), ())) =
        some (bend, up, tab (gateAt bend gate up) i, (i : Int), (((gate.getD i 0) % 256).toNat : Int), gate, ((gate.length : Nat) : Int), (i : Int), ()) := by
      split
      · rw [w64 (by omega) (by omega), show gate.getD i 0 + 256 = (((gate.getD i 0) % 256).toNat : Int) by omega]
      · rw [show ((((gate.getD i 0) % 256).toNat : Nat) : Int) = gate.getD i 0 by omega]
    rw [e1]
    simp only [Option.bind_some]
    rw [idx_getD (l := bend) (by omega) 0]
    simp only [Option.bind_some]
    rw [idx_getD (show i < up.length by omega) 0]
    simp only [Option.bind_some]
    rw [w64 (x := bend.getD ((gate.getD i 0) % 256).toNat 0) (by omega) (by omega), w64 (x := up.getD i 0) (by omega) (by omega), w64 (x := bend.getD ((gate.getD i 0) % 256).toNat 0 * up.getD i 0) (by omega) (by omega), ref02_Round (by omega) (by omega) (by omega)]
    simp only [Option.bind_some]
    rw [ref02_Narrow]
    simp only [Option.bind_some]
    rw [show narrowI (roundI (bend.getD ((gate.getD i 0) % 256).toNat 0 * up.getD i 0) 6).1 = gateAt bend gate up i from rfl, app_tab _ (by unfold room; omega) (by unfold room; omega), w64 (by omega) (by omega)]
    rfl
  · intro k
    show L_ref12_Gate_9 n (k + 1) _ = _
    rw [L_ref12_Gate_9_eq, brk_ite, if_neg (by simp)]

theorem gateI_all {bend gate up : List Int} : all7 (gateI bend gate up).1 := by
  unfold gateI
  split
  · exact fun x hx => (by cases hx)
  · split
    · exact fun x hx => (by cases hx)
    · split
      · exact fun x hx => (by cases hx)
      · intro x hx
        obtain ⟨i, _, rfl⟩ := tab_mem hx
        exact narrowI_rng _
theorem gateI_len {bend gate up : List Int} : (gateI bend gate up).1.length ≤ 1048576 := by
  unfold gateI
  split
  · simp
  · split
    · simp
    · split
      · simp
      · rename_i h _
        simp; omega

/-- the middle: its matrices, its shifts -/
abbrev Mid := List Int × List Int × List Int × Int × Int × Int
def middleI (b : Mid) (bend h : List Int) : List Int × Int :=
  let g := throughI b.1 h b.2.2.2.1
  if g.2 ≠ 0 then ([], g.2) else
  let u := throughI b.2.1 h b.2.2.2.2.1
  if u.2 ≠ 0 then ([], u.2) else
  let m := gateI bend g.1 u.1
  if m.2 ≠ 0 then ([], m.2) else
  let d := timesI b.2.2.1 (m.1.length : Int) m.1
  if d.2 ≠ 0 then ([], d.2) else scaleI d.1 b.2.2.2.2.2

theorem act_Middle {n : Nat} {b : Mid} {bend h : List Int} (h1 : all8 b.1) (h2 : all8 b.2.1) (h3 : all8 b.2.2.1) (hb : all8 bend) (hh : all8 h) (hl : h.length ≤ 1000000000) (hn : 2000000000 ≤ n) : F_act_Middle n (b, bend, h) = some (middleI b bend h) := by
  rw [F_act_Middle_eq, act_through h1 hh hl hn]
  unfold middleI
  simp only [Option.bind_some, brk_ite, bne_iff_ne]
  split
  · rfl
  · rw [act_through h2 hh hl hn]
    simp only [Option.bind_some]
    split
    · rfl
    · rw [act_Gate hb throughI_all.all8 throughI_all.all8 hn]
      simp only [Option.bind_some]
      split
      · rfl
      · have := gateI_len (bend := bend) (gate := (throughI b.1 h b.2.2.2.1).1) (up := (throughI b.2.1 h b.2.2.2.2.1).1)
        rw [vec_Times h3 gateI_all.all8 (by omega) hn]
        simp only [Option.bind_some]
        split
        · rfl
        · rw [vec_Scale (timesI_all h3 gateI_all.all8) hn]; rfl
theorem ref12_Run {n : Nat} {b : Mid} {bend h : List Int} (h1 : all8 b.1) (h2 : all8 b.2.1) (h3 : all8 b.2.2.1) (hb : all8 bend) (hh : all8 h) (hn : 2000000000 ≤ n) : F_ref12_Run n (b, bend, h) = some (middleI b bend h) := by
  rw [F_ref12_Run_eq, ref12_shrunk h1 hh hn]
  unfold middleI
  simp only [Option.bind_some, brk_ite, bne_iff_ne]
  split
  · rfl
  · rw [ref12_shrunk h2 hh hn]
    simp only [Option.bind_some]
    split
    · rfl
    · rw [ref12_Gate hb throughI_all.all8 throughI_all.all8 hn]
      simp only [Option.bind_some]
      split
      · rfl
      · rw [ref08_Times h3 gateI_all.all8 hn]
        simp only [Option.bind_some]
        split
        · rfl
        · rw [ref08_Scale (timesI_all h3 gateI_all.all8) hn]; rfl
theorem middleI_all {b : Mid} {bend h : List Int} (h3 : all8 b.2.2.1) : all64 (middleI b bend h).1 := by
  unfold middleI
  simp only
  split
  · exact fun x hx => (by cases hx)
  · split
    · exact fun x hx => (by cases hx)
    · split
      · exact fun x hx => (by cases hx)
      · split
        · exact fun x hx => (by cases hx)
        · exact scaleI_all (timesI_all h3 gateI_all.all8)

end Go.Am.Pu
