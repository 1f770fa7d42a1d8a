import Derived.Test.YtfafklfpikjheaaGreatP2
import Derived.Test.YtfafklfpikjheaaGreatT2
set_option linter.unusedVariables false
set_option linter.unusedSimpArgs false
/- Plain laws: loops; lists of numbers (layer 8). -/
namespace Go.Am.Pu
open Go Go.Am

/-- a loop whose state is known at each turn -/
theorem loop_st {β R : Type} {L : Nat → Int → β → Option R} {len : Nat} {r : R} (st : Nat → β) (hs : ∀ k i : Nat, i < len → L (k + 1) (i : Int) (st i) = L k ((i : Int) + 1) (st (i + 1))) (he : ∀ k, L (k + 1) (len : Int) (st len) = some r) :
    ∀ k, len < k → L k 0 (st 0) = some r := by
  have key : ∀ (m k i : Nat), i + m = len → m < k → L k (i : Int) (st i) = some r := by
    intro m
    induction m with
    | zero =>
      intro k i h1 h2
      obtain ⟨k, rfl⟩ : ∃ j, k = j + 1 := ⟨k - 1, by omega⟩
      have : i = len := by omega
      rw [this]; exact he k
    | succ m ih =>
      intro k i h1 h2
      obtain ⟨k, rfl⟩ : ∃ j, k = j + 1 := ⟨k - 1, by omega⟩
      rw [hs k i (by omega)]
      exact ih k (i + 1) (by omega) (by omega)
  exact fun k hk => key len k 0 (by omega) hk

/-- g 0, .., g (n - 1) -/
def tab {α : Type} (g : Nat → α) (n : Nat) : List α := (List.range n).map g
theorem tab_zero {α : Type} (g : Nat → α) : tab g 0 = [] := rfl
theorem tab_succ {α : Type} (g : Nat → α) (n : Nat) : tab g (n + 1) = tab g n ++ [g n] := by simp [tab, List.range_succ]
@[simp] theorem tab_length {α : Type} (g : Nat → α) (n : Nat) : (tab g n).length = n := by simp [tab]
theorem tab_get {α : Type} (g : Nat → α) {n i : Nat} (h : i < n) : (tab g n)[i]? = some (g i) := by simp [tab, h]
theorem tab_congr {α : Type} {g g' : Nat → α} {n : Nat} (h : ∀ i, i < n → g i = g' i) : tab g n = tab g' n := List.map_congr_left fun i hi => h i (List.mem_range.1 hi)
theorem tab_mem {α : Type} {g : Nat → α} {n : Nat} {x : α} (h : x ∈ tab g n) : ∃ i, i < n ∧ x = g i := by
  simp only [tab, List.mem_map, List.mem_range] at h
  obtain ⟨i, h1, h2⟩ := h
  exact ⟨i, h1, h2.symm⟩
theorem tab_getD {α : Type} (g : Nat → α) {n i : Nat} (h : i < n) (d : α) : (tab g n).getD i d = g i := by
  rw [List.getD_eq_getElem?_getD, tab_get g h]; rfl
/-- a list filled up to 'i' -/
def fill {α : Type} (g : Nat → α) (z : α) (n i : Nat) : List α := tab g i ++ List.replicate (n - i) z
theorem fill_zero {α : Type} (g : Nat → α) (z : α) (n : Nat) : fill g z n 0 = List.replicate n z := by simp [fill, tab]
theorem fill_end {α : Type} (g : Nat → α) (z : α) (n : Nat) : fill g z n n = tab g n := by simp [fill]
theorem fill_length {α : Type} (g : Nat → α) (z : α) {n i : Nat} (h : i ≤ n) : (fill g z n i).length = n := by simp [fill]; omega
theorem fill_set {α : Type} (g : Nat → α) (z : α) {n i : Nat} (h : i < n) : (fill g z n i).set i (g i) = fill g z n (i + 1) := by
  unfold fill
  rw [List.set_append_right _ _ (by simp), tab_length, Nat.sub_self, tab_succ]
  obtain ⟨m, hm⟩ : ∃ m, n - i = m + 1 := ⟨n - i - 1, by omega⟩
  rw [hm, show n - (i + 1) = m by omega, List.replicate_succ]
  simp

theorem ck_fill {α : Type} (g : Nat → α) (z : α) {n i : Nat} (h : i < n) : ck (i : Int) (fill g z n i).length = some i := by
  rw [fill_length g z (by omega)]; exact ck_some h
theorem get_fill {α : Type} (g : Nat → α) (z : α) {n i : Nat} (h : i < n) : (fill g z n i)[i]? = some z := by
  unfold fill
  rw [List.getElem?_append_right (by simp), tab_length, Nat.sub_self, List.getElem?_replicate, if_pos (by omega)]
theorem app_tab {α : Type} {b : Nat} (g : Nat → α) {i : Nat} (h : (i + 1) * b ≤ room) (h2 : i + 1 ≤ room) : app b (tab g i) [g i] = some (tab g (i + 1)) := by
  unfold app
  rw [if_pos ⟨by simpa using h, by simpa using h2⟩, tab_succ]

theorem getD_lt {α : Type} {l : List α} {i : Nat} (h : i < l.length) (d : α) : l.getD i d = l[i] := by simp [h]
theorem idx_getD {α : Type} {l : List α} {i : Nat} (h : i < l.length) (d : α) : idx l (i : Int) = some (l.getD i d) := by rw [idx_some h, getD_lt h]
theorem tab_list {α β : Type} (f : α → β) (l : List α) (d : α) : tab (fun i => f (l.getD i d)) l.length = l.map f := by
  apply List.ext_getElem
  · simp
  · intro i h1 h2
    have h3 : i < l.length := by simpa using h2
    simp [tab, h3]

/-- numbers of 8 bits, of 64 -/
def all8 (l : List Int) : Prop := ∀ x ∈ l, -128 ≤ x ∧ x ≤ 127
def all64 (l : List Int) : Prop := ∀ x ∈ l, -9223372036854775808 ≤ x ∧ x ≤ 9223372036854775807
theorem all8.at {l : List Int} (h : all8 l) (i : Nat) : -128 ≤ l.getD i 0 ∧ l.getD i 0 ≤ 127 := by
  by_cases hi : i < l.length
  · rw [getD_lt hi]; exact h _ (List.getElem_mem hi)
  · rw [List.getD_eq_getElem?_getD, List.getElem?_eq_none (by omega)]; decide
theorem all64.at {l : List Int} (h : all64 l) (i : Nat) : -9223372036854775808 ≤ l.getD i 0 ∧ l.getD i 0 ≤ 9223372036854775807 := by
  by_cases hi : i < l.length
  · rw [getD_lt hi]; exact h _ (List.getElem_mem hi)
  · rw [List.getD_eq_getElem?_getD, List.getElem?_eq_none (by omega)]; decide
theorem all8.sub {l : List Int} (h : all8 l) (a b : Nat) : all8 ((l.drop a).take b) := fun x hx => h x (List.mem_of_mem_drop (List.mem_of_mem_take hx))

/-- sums -/
def sumN (g : Nat → Int) : Nat → Int
  | 0 => 0
  | i + 1 => sumN g i + g i
theorem sumN_rng {g : Nat → Int} {m : Int} (hm : 0 ≤ m) (h : ∀ i, -m ≤ g i ∧ g i ≤ m) : ∀ i : Nat, -(i * m) ≤ sumN g i ∧ sumN g i ≤ i * m
  | 0 => by simp [sumN]
  | i + 1 => by
    have h1 := sumN_rng hm h i
    have h2 := h i
    simp only [sumN]
    rw [show ((i + 1 : Nat) : Int) * m = i * m + m by rw [Int.natCast_add, Int.add_mul]; simp]
    omega

theorem mul8 {a b : Int} (ha : -128 ≤ a ∧ a ≤ 127) (hb : -128 ≤ b ∧ b ≤ 127) : -16384 ≤ a * b ∧ a * b ≤ 16384 := by
  have h : ∀ a b : Int, 0 ≤ a → a ≤ 128 → 0 ≤ b → b ≤ 128 → 0 ≤ a * b ∧ a * b ≤ 16384 := fun a b h1 h2 h3 h4 => by
    have := Int.mul_le_mul h2 h4 h3 (by omega)
    have := Int.mul_nonneg h1 h3
    omega
  by_cases h1 : 0 ≤ a
  · by_cases h2 : 0 ≤ b
    · have := h a b h1 (by omega) h2 (by omega); omega
    · have := h a (-b) h1 (by omega) (by omega) (by omega)
      rw [Int.mul_neg] at this; omega
  · by_cases h2 : 0 ≤ b
    · have := h (-a) b (by omega) (by omega) h2 (by omega)
      rw [Int.neg_mul] at this; omega
    · have := h (-a) (-b) (by omega) (by omega) (by omega) (by omega)
      rw [Int.neg_mul_neg] at this; omega

def dotI (a b : List Int) : Int := sumN (fun i => a.getD i 0 * b.getD i 0) a.length
theorem dot_rng {a b : List Int} (ha : all8 a) (hb : all8 b) (i : Nat) : -(i * 16384) ≤ sumN (fun i => a.getD i 0 * b.getD i 0) i ∧ sumN (fun i => a.getD i 0 * b.getD i 0) i ≤ i * 16384 :=
  sumN_rng (by omega) (fun i => mul8 (ha.at i) (hb.at i)) i
theorem dotI_rng {a b : List Int} (ha : all8 a) (hb : all8 b) : -((a.length : Nat) * 16384 : Int) ≤ dotI a b ∧ dotI a b ≤ (a.length : Nat) * 16384 := dot_rng ha hb _

theorem vec_dot {n : Nat} {a b : List Int} (ha : all8 a) (hb : all8 b) (hl : a.length ≤ b.length) (hlen : a.length ≤ 1000000000) (hn : 2000000000 ≤ n) : F_vec_dot n (a, b) = some (dotI a b) := by
  rw [F_vec_dot_eq]
  have hL := loop_st (L := fun k i s => L_vec_dot_3 n k (b, s, a, ((a.length : Nat) : Int), i, ())) (len := a.length) (r := (dotI a b, ())) (fun i => sumN (fun i => a.getD i 0 * b.getD i 0) i) ?_ ?_ n (by omega)
  · rw [show (sumN (fun i => a.getD i 0 * b.getD i 0) 0) = 0 from rfl] at hL
    rw [hL]; rfl
  · intro k i hi
    show L_vec_dot_3 n (k + 1) _ = _
    rw [L_vec_dot_3_eq]
    simp only [brk_ite, decide_eq_true_eq]
    rw [if_pos (by omega), idx_getD hi 0, idx_getD (show i < b.length by omega) 0]
    have h1 := ha.at i
    have h2 := hb.at i
    have h3 := mul8 h1 h2
    have h4 := dot_rng ha hb i
    simp only [Option.bind_some]
    rw [w64 (x := a.getD i 0) (by omega) (by omega), w64 (x := b.getD i 0) (by omega) (by omega), w64 (x := a.getD i 0 * b.getD i 0) (by omega) (by omega), w64 (x := (i : Int) + 1) (by omega) (by omega), w64 (by omega) (by omega)]
    rfl
  · intro k
    show L_vec_dot_3 n (k + 1) _ = _
    rw [L_vec_dot_3_eq, brk_ite, if_neg (by simp)]
    rfl

theorem ref08_Dot {n : Nat} {a b : List Int} (ha : all8 a) (hb : all8 b) (hl : a.length = b.length) (hlen : a.length ≤ 1048576) (hn : 2000000000 ≤ n) : F_ref08_Dot n (a, b) = some (dotI a b, 0) := by
  rw [F_ref08_Dot_eq]
  simp only [brk_ite, decide_eq_true_eq, bne_iff_ne, ne_eq]
  rw [if_neg (by omega), if_neg (by omega), if_neg (by omega)]
  have hL := loop_st (L := fun k i s => L_ref08_Dot_7 n k (a, b, s, ((a.length : Nat) : Int), i, ())) (len := a.length) (r := (dotI a b, ())) (fun i => sumN (fun i => a.getD i 0 * b.getD i 0) i) ?_ ?_ n (by omega)
  · rw [show (sumN (fun i => a.getD i 0 * b.getD i 0) 0) = 0 from rfl] at hL
    rw [hL]; rfl
  · intro k i hi
    show L_ref08_Dot_7 n (k + 1) _ = _
    rw [L_ref08_Dot_7_eq]
    simp only [brk_ite, decide_eq_true_eq]
    rw [if_pos (by omega), idx_getD hi 0, idx_getD (show i < b.length by omega) 0]
    have h1 := ha.at i
    have h2 := hb.at i
    have h3 := mul8 h1 h2
    have h4 := dot_rng ha hb i
    simp only [Option.bind_some]
    rw [w64 (x := a.getD i 0) (by omega) (by omega), w64 (x := b.getD i 0) (by omega) (by omega), w64 (x := a.getD i 0 * b.getD i 0) (by omega) (by omega), w64 (x := (i : Int) + 1) (by omega) (by omega), w64 (by omega) (by omega)]
    rfl
  · intro k
    show L_ref08_Dot_7 n (k + 1) _ = _
    rw [L_ref08_Dot_7_eq, brk_ite, if_neg (by simp)]
    rfl

end Go.Am.Pu

/- Plain laws: vec (layer 8). -/
namespace Go.Am.Pu
open Go Go.Am

def matI (w : List Int) (cols : Int) : Int := if w.length > 1048576 then 81 else if cols < 1 ∨ (w.length : Int) % cols ≠ 0 then 80 else 0

theorem mat_tail {w : List Int} {cols : Int} : (brk (decide ((((List.length w) : Nat) : Int) > (1048576 : Int)))
      (some (81 : Int))
      (brk (decide (cols < (1 : Int)))
        (some (80 : Int))
        (((rm (((List.length w) : Nat) : Int) cols)).bind fun v1 =>
        brk (v1 != (0 : Int))
          (some (80 : Int))
          (some (0 : Int))))) = some (matI w cols) := by
  simp only [brk_ite, decide_eq_true_eq]
  unfold matI
  by_cases h1 : ((w.length : Nat) : Int) > 1048576
  · have h1' : w.length > 1048576 := by omega
    rw [if_pos h1, if_pos h1']
  · have h1' : ¬ w.length > 1048576 := by omega
    rw [if_neg h1, if_neg h1']
    by_cases h2 : cols < 1
    · rw [if_pos h2, if_pos (.inl h2)]
    · rw [if_neg h2, rm_some (by omega), Int.tmod_eq_emod_of_nonneg (by omega)]
      simp only [Option.bind_some, bne_iff_ne, ne_eq]
      by_cases h3 : (w.length : Int) % cols = 0
      · rw [if_neg (by simpa using h3), if_neg]
        rintro (h4 | h4)
        · exact h2 h4
        · exact h4 h3
      · rw [if_pos h3, if_pos (.inr h3)]
theorem vec_matrix {n : Nat} {w : List Int} {cols : Int} : F_vec_matrix n (w, cols) = some (matI w cols) := by rw [F_vec_matrix_eq]; exact mat_tail
theorem ref08_Matrix {n : Nat} {w : List Int} {cols : Int} : F_ref08_Matrix n (w, cols) = some (matI w cols) := by rw [F_ref08_Matrix_eq]; exact mat_tail

theorem matI_zero {w : List Int} {cols : Int} (h : matI w cols = 0) : w.length ≤ 1048576 ∧ 1 ≤ cols ∧ (w.length : Int) % cols = 0 := by
  unfold matI at h
  split at h
  · cases h
  · split at h
    · cases h
    · rename_i h1 h2
      refine ⟨by omega, ?_, ?_⟩
      · by_cases h3 : cols < 1
        · exact absurd (.inl h3) h2
        · omega
      · by_cases h3 : (w.length : Int) % cols = 0
        · exact h3
        · exact absurd (.inr h3) h2

/-- piece j -/
def rowN (w : List Int) (c j : Nat) : List Int := (w.drop (j * c)).take c
def timesL (w : List Int) (c : Nat) (x : List Int) : List Int := tab (fun j => dotI (rowN w c j) x) (w.length / c)
def timesI (w : List Int) (cols : Int) (x : List Int) : List Int × Int :=
  if matI w cols ≠ 0 then ([], matI w cols) else if (x.length : Int) ≠ cols then ([], 80) else (timesL w cols.toNat x, 0)

theorem len_div {l c j : Nat} (h : l % c = 0) (hj : j < l / c) : j * c + c ≤ l := by
  have h1 := Nat.div_add_mod l c
  have h2 : (j + 1) * c ≤ (l / c) * c := Nat.mul_le_mul_right c hj
  rw [Nat.succ_mul] at h2
  rw [Nat.mul_comm] at h1
  omega

theorem rowN_len {w : List Int} {c j : Nat} (h : w.length % c = 0) (hj : j < w.length / c) : (rowN w c j).length = c := by
  have := len_div h hj
  simp [rowN]; omega

theorem mapO_tab {α β : Type} (f : α → Option β) (g : Nat → α) (r : Nat → β) : ∀ n : Nat, (∀ j, j < n → f (g j) = some (r j)) → mapO f (tab g n) = some (tab r n)
  | 0, _ => rfl
  | n + 1, h => by
    rw [tab_succ, tab_succ]
    exact Go.Proofs.Tryz.mapO_snoc f _ _ _ _ (mapO_tab f g r n fun j hj => h j (by omega)) (h n (by omega))

theorem pcs_div {l c : Nat} (hc : 1 ≤ c) (h : l % c = 0) : Go.Proofs.Tryz.pcs l c = l / c := by
  unfold Go.Proofs.Tryz.pcs
  obtain ⟨m, rfl⟩ := Nat.dvd_of_mod_eq_zero h
  rw [Nat.mul_div_cancel_left _ (by omega), Nat.add_sub_assoc hc, Nat.mul_add_div (by omega), Nat.div_eq_of_lt (by omega)]
  omega

theorem vec_Times {n : Nat} {w x : List Int} {cols : Int} (hw : all8 w) (hx : all8 x) (hxl : x.length ≤ 1000000000) (hn : 2000000000 ≤ n) : F_vec_Times n (w, cols, x) = some (timesI w cols x) := by
  show Go.Proofs.Tryz.timesF (F_vec_matrix n) (F_vec_dot n) (w, cols, x) = _
  unfold Go.Proofs.Tryz.timesF timesI
  simp only
  rw [vec_matrix]
  simp only [Option.bind_some, brk_ite, Bool.not_eq_true', beq_eq_false_iff_ne, ne_eq]
  split
  · rfl
  · rename_i h0
    have h0 : matI w cols = 0 := by omega
    obtain ⟨h1, h2, h3⟩ := matI_zero h0
    split
    · rfl
    · rename_i h4
      have h4 : (x.length : Int) = cols := by omega
      subst h4
      rw [if_pos (by simp; omega), Int.toNat_natCast]
      have h3' : w.length % x.length = 0 := by omega
      have hc : 1 ≤ x.length := by omega
      have : Go.Proofs.Tryz.chunks x.length w = tab (fun j => rowN w x.length j) (w.length / x.length) := by
        unfold Go.Proofs.Tryz.chunks
        rw [pcs_div hc h3']; rfl
      rw [this, mapO_tab _ _ (fun j => dotI (rowN w x.length j) x) _ (fun j hj => by
        have := rowN_len h3' hj
        exact vec_dot (hw.sub _ _) hx (by omega) (by omega) hn)]
      rfl

theorem slc_row {w : List Int} {c j : Nat} (h : w.length % c = 0) (hj : j < w.length / c) : slc w ((j * c : Nat) : Int) ((j * c : Nat) + (c : Nat) : Int) = some (rowN w c j) := by
  have := len_div h hj
  unfold slc
  rw [if_pos ⟨by omega, by omega, by omega⟩]
  congr 1
  unfold rowN
  rw [show (((j * c : Nat) : Int) + (c : Nat)).toNat = j * c + c by omega, Int.toNat_natCast, List.drop_take]
  congr 1
  omega

theorem ref08_Times {n : Nat} {w x : List Int} {cols : Int} (hw : all8 w) (hx : all8 x) (hn : 2000000000 ≤ n) : F_ref08_Times n (w, cols, x) = some (timesI w cols x) := by
  rw [F_ref08_Times_eq, ref08_Matrix]
  unfold timesI
  simp only [Option.bind_some, brk_ite, bne_iff_ne, ne_eq]
  split
  · rfl
  · rename_i h0
    have h0 : matI w cols = 0 := by omega
    obtain ⟨h1, h2, h3⟩ := matI_zero h0
    split
    · rfl
    · rename_i h4
      have h4 : (x.length : Int) = cols := by omega
      subst h4
      have h3' : w.length % x.length = 0 := by omega
      have hc : 1 ≤ x.length := by omega
      have hq : (w.length / x.length) ≤ w.length := Nat.div_le_self _ _
      have key : ∀ (m k j : Nat), j + m = w.length / x.length → m < k → L_ref08_Times_8 n k (w, (x.length : Int), x, tab (fun j => dotI (rowN w x.length j) x) j, ((j * x.length : Nat) : Int), ()) = some (timesL w x.length x, ()) := by
        intro m
        induction m with
        | zero =>
          intro k j h5 h6
          obtain ⟨k, rfl⟩ : ∃ i, k = i + 1 := ⟨k - 1, by omega⟩
          have hj : j = w.length / x.length := by omega
          rw [L_ref08_Times_8_eq, brk_ite, if_neg]
          · rw [hj]; rfl
          · have h7 := Nat.div_add_mod w.length x.length
            have h8 : j * x.length = w.length := by rw [hj, Nat.mul_comm]; omega
            rw [h8]
            simp
        | succ m ih =>
          intro k j h5 h6
          obtain ⟨k, rfl⟩ : ∃ i, k = i + 1 := ⟨k - 1, by omega⟩
          have hj : j < w.length / x.length := by omega
          have h7 := len_div h3' hj
          rw [L_ref08_Times_8_eq]
          simp only [brk_ite, decide_eq_true_eq]
          rw [if_pos (by omega), w64 (by omega) (by omega), slc_row h3' hj]
          simp only [Option.bind_some]
          have h8 := rowN_len h3' hj
          rw [ref08_Dot (a := rowN w x.length j) (hw.sub _ _) hx (by omega) (by omega) hn]
          simp only [Option.bind_some]
          rw [app_tab (fun j => dotI (rowN w x.length j) x) (by unfold room; omega) (by unfold room; omega)]
          simp only [Option.bind_some]
          have := ih k (j + 1) (by omega) (by omega)
          rw [Nat.succ_mul] at this
          exact this
      have := key (w.length / x.length) n 0 (by omega) (by omega)
      rw [Nat.zero_mul] at this
      rw [show (([] : List Int)) = tab (fun j => dotI (rowN w x.length j) x) 0 from rfl, show (0 : Int) = ((0 : Nat) : Int) from rfl, this]
      rfl

/-- is a list too long? -/
def fit1 (a : List Int) : Int := if a.length > 1048576 then 81 else 0
def fit2 (a b : List Int) : Int := if a.length > 1048576 ∨ b.length > 1048576 then 81 else if a.length ≠ b.length then 80 else 0

theorem vec_fit64_1 {n : Nat} (hn : 10 ≤ n) {a : List Int} : F_vec_fit_int64 n [a] = some (fit1 a) := by
  obtain ⟨k, rfl⟩ : ∃ k, n = k + 4 := ⟨n - 4, by omega⟩
  rw [F_vec_fit_int64_eq, L_vec_fit_int64_2_eq]
  simp only [brk_ite, List.length_singleton]
  rw [if_pos (by simp), show idx [a] (0 : Int) = some a from rfl]
  simp only [Option.bind_some, decide_eq_true_eq]
  unfold fit1
  by_cases h : ((a.length : Nat) : Int) > 1048576
  · rw [if_pos h, if_pos (by omega)]; rfl
  · rw [if_neg h, if_neg (by omega), w64 (by decide) (by decide), L_vec_fit_int64_2_eq, brk_ite, if_neg (by simp)]
    simp only [Option.bind_some, sumk]
    rw [L_vec_fit_int64_8_eq]
    simp only [brk_ite, List.length_singleton]
    rw [if_pos (by simp), show idx [a] (0 : Int) = some a from rfl]
    simp only [Option.bind_some]
    rw [if_neg (by simp), w64 (by decide) (by decide), L_vec_fit_int64_8_eq, brk_ite, if_neg (by simp)]
    rfl

theorem vec_fit64_2 {n : Nat} (hn : 10 ≤ n) {a b : List Int} : F_vec_fit_int64 n [a, b] = some (fit2 a b) := by
  obtain ⟨k, rfl⟩ : ∃ k, n = k + 4 := ⟨n - 4, by omega⟩
  have e0 : idx [a, b] (0 : Int) = some a := rfl
  have e1 : idx [a, b] (1 : Int) = some b := rfl
  have d1 : IntKind.wrap .i64 ((0 : Int) + 1) = 1 := w64 (by decide) (by decide)
  have d2 : IntKind.wrap .i64 ((1 : Int) + 1) = 2 := w64 (by decide) (by decide)
  rw [F_vec_fit_int64_eq, L_vec_fit_int64_2_eq]
  simp only [brk_ite, List.length_cons, List.length_nil]
  rw [if_pos (by simp), e0]
  simp only [Option.bind_some, decide_eq_true_eq]
  unfold fit2
  by_cases h : ((a.length : Nat) : Int) > 1048576
  · rw [if_pos h, if_pos (by omega)]; rfl
  · rw [if_neg h, d1, L_vec_fit_int64_2_eq]
    simp only [brk_ite]
    rw [if_pos (by simp), e1]
    simp only [Option.bind_some, decide_eq_true_eq]
    by_cases h' : ((b.length : Nat) : Int) > 1048576
    · rw [if_pos h', if_pos (by omega)]; rfl
    · rw [if_neg h', if_neg (by omega), d2, L_vec_fit_int64_2_eq, brk_ite, if_neg (by simp)]
      simp only [Option.bind_some, sumk]
      rw [L_vec_fit_int64_8_eq]
      simp only [brk_ite, List.length_cons, List.length_nil]
      rw [if_pos (by simp), e0]
      simp only [Option.bind_some]
      rw [if_neg (by simp), d1, L_vec_fit_int64_8_eq]
      simp only [brk_ite]
      rw [if_pos (by simp), e1, e0]
      simp only [Option.bind_some, bne_iff_ne, ne_eq]
      by_cases h3 : ((b.length : Nat) : Int) = ((a.length : Nat) : Int)
      · rw [if_neg (by simpa using h3), if_neg (by omega), d2, L_vec_fit_int64_8_eq, brk_ite, if_neg (by simp)]
        rfl
      · rw [if_pos h3, if_pos (by omega)]; rfl

/-- numbers rounded by a shift -/
def scaleI (l : List Int) (s : Int) : List Int × Int := if fit1 l ≠ 0 then ([], fit1 l) else if s < 0 ∨ s > 62 then ([], 20) else (l.map (fun x => (roundI x s).1), 0)

theorem vec_Scale {n : Nat} {l : List Int} {s : Int} (hl : all64 l) (hn : 2000000000 ≤ n) : F_vec_Scale n (l, s) = some (scaleI l s) := by
  rw [F_vec_Scale_eq, vec_fit64_1 (by omega)]
  unfold scaleI
  simp only [Option.bind_some, brk_ite, bne_iff_ne, ne_eq]
  split
  · rfl
  · rename_i h0
    have h1 : l.length ≤ 1048576 := by
      unfold fit1 at h0
      split at h0 <;> omega
    rw [fixed_Round (by omega) (by omega)]
    simp only [Option.bind_some]
    by_cases hs : s < 0 ∨ s > 62
    · rw [if_pos hs]
      have : (roundI 0 s) = (0, 20) := by unfold roundI; rw [if_pos hs]
      rw [this]; rfl
    · rw [if_neg hs]
      have h2 : ∀ x, (roundI x s).2 = 0 := fun x => by unfold roundI; rw [if_neg hs]
      rw [h2 0, if_neg (by omega)]
      have hm : mkn 8 (l.length : Int) = some l.length := by
        unfold mkn room
        rw [if_pos ⟨by omega, by omega, by omega⟩]; simp
      rw [hm]
      simp only [Option.bind_some]
      have hL := loop_st (L := fun k i o => L_vec_Scale_9 n k (s, (), l, ((l.length : Nat) : Int), i, o, ())) (len := l.length) (r := ((), l.map (fun x => (roundI x s).1), ())) (fun i => fill (fun j => (roundI (l.getD j 0) s).1) 0 l.length i) ?_ ?_ n (by omega)
      · rw [fill_zero] at hL
        rw [hL]; rfl
      · intro k i hi
        show L_vec_Scale_9 n (k + 1) _ = _
        rw [L_vec_Scale_9_eq]
        simp only [brk_ite, decide_eq_true_eq]
        have h3 := hl.at i
        rw [if_pos (by omega), idx_getD hi 0]
        simp only [Option.bind_some]
        rw [fixed_Round h3.1 h3.2, ck_fill _ _ hi]
        simp only [Option.bind_some]
        rw [get_fill _ _ hi, fill_set _ _ hi, w64 (by omega) (by omega)]
        rfl
      · intro k
        show L_vec_Scale_9 n (k + 1) _ = _
        rw [L_vec_Scale_9_eq, brk_ite, if_neg (by simp), fill_end, tab_list (fun x => (roundI x s).1)]

theorem ref08_Scale {n : Nat} {l : List Int} {s : Int} (hl : all64 l) (hn : 2000000000 ≤ n) : F_ref08_Scale n (l, s) = some (scaleI l s) := by
  rw [F_ref08_Scale_eq]
  unfold scaleI fit1
  simp only [brk_ite, decide_eq_true_eq]
  by_cases h1 : ((l.length : Nat) : Int) > 1048576
  · have h1' : l.length > 1048576 := by omega
    rw [if_pos h1, if_pos h1', if_pos (show (81 : Int) ≠ 0 by decide)]
  · have h1' : ¬ l.length > 1048576 := by omega
    rw [if_neg h1, if_neg h1', if_neg (show ¬ (0 : Int) ≠ 0 by decide)]
    by_cases h2 : s < 0
    · rw [if_pos h2, if_pos (.inl h2)]
    · rw [if_neg h2]
      by_cases h3 : s > 62
      · rw [if_pos h3, if_pos (.inr h3)]
      · rw [if_neg h3, if_neg (by omega)]
        have hL := loop_st (L := fun k i o => L_ref08_Scale_7 n k (s, o, l, ((l.length : Nat) : Int), i, ())) (len := l.length) (r := (l.map (fun x => (roundI x s).1), ())) (fun i => tab (fun j => (roundI (l.getD j 0) s).1) i) ?_ ?_ n (by omega)
        · rw [tab_zero] at hL
          rw [hL]; rfl
        · intro k i hi
          show L_ref08_Scale_7 n (k + 1) _ = _
          rw [L_ref08_Scale_7_eq]
          simp only [brk_ite, decide_eq_true_eq]
          have h3 := hl.at i
          rw [if_pos (by omega), idx_getD hi 0]
          simp only [Option.bind_some]
          rw [ref02_Round (by omega) h3.1 h3.2]
          simp only [Option.bind_some]
          rw [app_tab (fun j => (roundI (l.getD j 0) s).1) (by unfold room; omega) (by unfold room; omega), w64 (by omega) (by omega)]
          rfl
        · intro k
          show L_ref08_Scale_7 n (k + 1) _ = _
          rw [L_ref08_Scale_7_eq, brk_ite, if_neg (by simp), tab_list (fun x => (roundI x s).1)]

def shrinkI (l : List Int) (s : Int) : List Int × Int := ((scaleI l s).1.map narrowI, (scaleI l s).2)

theorem scaleI_len {l : List Int} {s : Int} : (scaleI l s).1.length ≤ 1048576 ∧ ((scaleI l s).2 ≠ 0 → (scaleI l s).1 = []) := by
  unfold scaleI fit1
  by_cases h1 : l.length > 1048576
  · rw [if_pos h1, if_pos (show (81 : Int) ≠ 0 by decide)]
    exact ⟨by simp, fun _ => rfl⟩
  · rw [if_neg h1, if_neg (show ¬ (0 : Int) ≠ 0 by decide)]
    split
    · exact ⟨by simp, fun _ => rfl⟩
    · exact ⟨by simp; omega, fun h => absurd rfl h⟩

theorem vec_Shrink {n : Nat} {l : List Int} {s : Int} (hl : all64 l) (hn : 2000000000 ≤ n) : F_vec_Shrink n (l, s) = some (shrinkI l s) := by
  rw [F_vec_Shrink_eq, vec_Scale hl hn]
  unfold shrinkI
  obtain ⟨h1, h2⟩ := scaleI_len (l := l) (s := s)
  generalize scaleI l s = q at h1 h2
  obtain ⟨l, e⟩ := q
  simp only [Option.bind_some, brk_ite, bne_iff_ne, ne_eq] at h1 h2 ⊢
  split
  · rename_i h; rw [h2 h]; rfl
  · rename_i h
    have hm : mkn 1 (l.length : Int) = some l.length := by
      unfold mkn room
      rw [if_pos ⟨by omega, by omega, by omega⟩]; simp
    rw [hm]
    simp only [Option.bind_some]
    have hL := loop_st (L := fun k i o => L_vec_Shrink_6 n k ((), l, ((l.length : Nat) : Int), i, o, ())) (len := l.length) (r := ((), l.map narrowI, ())) (fun i => fill (fun j => narrowI (l.getD j 0)) 0 l.length i) ?_ ?_ n (by omega)
    · rw [fill_zero] at hL
      rw [hL]
      have : e = 0 := by omega
      rw [this]; rfl
    · intro k i hi
      show L_vec_Shrink_6 n (k + 1) _ = _
      rw [L_vec_Shrink_6_eq]
      simp only [brk_ite, decide_eq_true_eq]
      rw [if_pos (by omega), idx_getD hi 0]
      simp only [Option.bind_some]
      rw [fixed_Narrow, ck_fill _ _ hi]
      simp only [Option.bind_some]
      rw [get_fill _ _ hi, fill_set _ _ hi, w64 (by omega) (by omega)]
      rfl
    · intro k
      show L_vec_Shrink_6 n (k + 1) _ = _
      rw [L_vec_Shrink_6_eq, brk_ite, if_neg (by simp), fill_end, tab_list narrowI]

theorem ref08_Shrink {n : Nat} {l : List Int} {s : Int} (hl : all64 l) (hn : 2000000000 ≤ n) : F_ref08_Shrink n (l, s) = some (shrinkI l s) := by
  rw [F_ref08_Shrink_eq, ref08_Scale hl hn]
  unfold shrinkI
  obtain ⟨h1, h2⟩ := scaleI_len (l := l) (s := s)
  generalize scaleI l s = q at h1 h2
  obtain ⟨l, e⟩ := q
  simp only [Option.bind_some] at h1 h2 ⊢
  have hL := loop_st (L := fun k i o => L_ref08_Shrink_4 n k (e, o, l, ((l.length : Nat) : Int), i, ())) (len := l.length) (r := (e, l.map narrowI, ())) (fun i => tab (fun j => narrowI (l.getD j 0)) i) ?_ ?_ n (by omega)
  · rw [tab_zero] at hL
    rw [hL]; rfl
  · intro k i hi
    show L_ref08_Shrink_4 n (k + 1) _ = _
    rw [L_ref08_Shrink_4_eq]
    simp only [brk_ite, decide_eq_true_eq]
    rw [if_pos (by omega), idx_getD hi 0]
    simp only [Option.bind_some]
    rw [ref02_Narrow]
    simp only [Option.bind_some]
    rw [app_tab (fun j => narrowI (l.getD j 0)) (by unfold room; omega) (by unfold room; omega), w64 (by omega) (by omega)]
    rfl
  · intro k
    show L_ref08_Shrink_4 n (k + 1) _ = _
    rw [L_ref08_Shrink_4_eq, brk_ite, if_neg (by simp), tab_list narrowI]

end Go.Am.Pu

/- Plain laws: sums (layer 8), roots and rows of one size (layer 9). -/
namespace Go.Am.Pu
open Go Go.Am

theorem least {p : Nat → Prop} : ∀ n, p n → ∃ i, p i ∧ (∀ j, j < i → ¬ p j) ∧ i ≤ n := by
  intro n
  induction n using Nat.strongRecOn with
  | _ n ih =>
    intro h
    by_cases h2 : ∃ j, j < n ∧ p j
    · obtain ⟨j, h3, h4⟩ := h2
      obtain ⟨i, a, b, c⟩ := ih j h3 h4
      exact ⟨i, a, b, by omega⟩
    · exact ⟨n, h, fun j hj hp => h2 ⟨j, hj, hp⟩, Nat.le_refl _⟩

def sumAt (a b : List Int) (i : Nat) : Int × Bool := addI (a.getD i 0) (b.getD i 0)
open Classical in
noncomputable def addL (a b : List Int) : List Int × Int :=
  if fit2 a b ≠ 0 then ([], fit2 a b) else if ∃ i, i < a.length ∧ (sumAt a b i).2 = false then ([], 82) else (tab (fun i => (sumAt a b i).1) a.length, 0)

theorem fit2_zero {a b : List Int} (h : fit2 a b = 0) : a.length ≤ 1048576 ∧ b.length ≤ 1048576 ∧ a.length = b.length := by
  unfold fit2 at h
  split at h
  · cases h
  · split at h
    · cases h
    · omega

theorem vec_Add {n : Nat} {a b : List Int} (ha : all64 a) (hb : all64 b) (hn : 2000000000 ≤ n) : F_vec_Add n (a, b) = some (addL a b) := by
  rw [F_vec_Add_eq, vec_fit64_2 (by omega)]
  unfold addL
  simp only [Option.bind_some, brk_ite, bne_iff_ne, ne_eq]
  by_cases h0 : fit2 a b = 0
  · obtain ⟨h1, h2, h3⟩ := fit2_zero h0
    rw [if_neg (by simpa using h0), if_neg (by simpa using h0)]
    have hm : mkn 8 (a.length : Int) = some a.length := by
      unfold mkn room
      rw [if_pos ⟨by omega, by omega, by omega⟩]; simp
    rw [hm]
    simp only [Option.bind_some]
    have step : ∀ k i : Nat, i < a.length → L_vec_Add_6 n (k + 1) (b, (), a, ((a.length : Nat) : Int), (i : Int), fill (fun j => (sumAt a b j).1) 0 a.length i, ()) =
        if (sumAt a b i).2 = false then some (Sum.inl ([], 82, ())) else L_vec_Add_6 n k (b, (), a, ((a.length : Nat) : Int), (i : Int) + 1, fill (fun j => (sumAt a b j).1) 0 a.length (i + 1), ()) := by
      intro k i hi
      rw [L_vec_Add_6_eq]
      simp only [brk_ite, decide_eq_true_eq]
      have h4 := ha.at i
      have h5 := hb.at i
      rw [if_pos (by omega), idx_getD hi 0, idx_getD (show i < b.length by omega) 0]
      simp only [Option.bind_some]
      rw [fixed_Add h4.1 h4.2 h5.1 h5.2, ck_fill _ _ hi]
      simp only [Option.bind_some]
      rw [get_fill _ _ hi, w64 (by omega) (by omega)]
      simp only [Option.bind_some]
      rw [show addI (a.getD i 0) (b.getD i 0) = sumAt a b i from rfl, fill_set (fun j => (sumAt a b j).1) _ hi]
      simp only [Bool.not_eq_true']
    by_cases hex : ∃ i, i < a.length ∧ (sumAt a b i).2 = false
    · rw [if_pos hex]
      obtain ⟨i0, hi0, hb0⟩ := hex
      obtain ⟨i, hi, hlt, hle⟩ := least (p := fun i => (sumAt a b i).2 = false) i0 hb0
      have hL := loop_st (L := fun k i o => L_vec_Add_6 n k (b, (), a, ((a.length : Nat) : Int), i, o, ())) (len := i) (r := Sum.inl ([], 82, ())) (fun i => fill (fun j => (sumAt a b j).1) 0 a.length i)
        (fun k j hj => by rw [step k j (by omega), if_neg (hlt j hj)]) (fun k => by rw [step k i (by omega), if_pos hi]) n (by omega)
      rw [fill_zero] at hL
      rw [hL]; rfl
    · rw [if_neg hex]
      have hL := loop_st (L := fun k i o => L_vec_Add_6 n k (b, (), a, ((a.length : Nat) : Int), i, o, ())) (len := a.length) (r := Sum.inr ((), tab (fun i => (sumAt a b i).1) a.length, ())) (fun i => fill (fun j => (sumAt a b j).1) 0 a.length i)
        (fun k j hj => by rw [step k j hj, if_neg (fun h => hex ⟨j, hj, h⟩)]) (fun k => by
          show L_vec_Add_6 n (k + 1) _ = _
          rw [L_vec_Add_6_eq, brk_ite, if_neg (by simp), fill_end]) n (by omega)
      rw [fill_zero] at hL
      rw [hL]; rfl
  · rw [if_pos (by simpa using h0), if_pos (by simpa using h0)]

theorem ref08_Add {n : Nat} {a b : List Int} (ha : all64 a) (hb : all64 b) (hn : 2000000000 ≤ n) : F_ref08_Add n (a, b) = some (addL a b) := by
  rw [F_ref08_Add_eq]
  unfold addL
  simp only [brk_ite, decide_eq_true_eq, bne_iff_ne, ne_eq]
  by_cases g1 : ((a.length : Nat) : Int) > 1048576
  · have e : fit2 a b = 81 := by unfold fit2; rw [if_pos (.inl (by omega))]
    rw [if_pos g1, e]; rfl
  · rw [if_neg g1]
    by_cases g2 : ((b.length : Nat) : Int) > 1048576
    · have e : fit2 a b = 81 := by unfold fit2; rw [if_pos (.inr (by omega))]
      rw [if_pos g2, e]; rfl
    · rw [if_neg g2]
      by_cases g3 : ((a.length : Nat) : Int) = ((b.length : Nat) : Int)
      · have h0 : fit2 a b = 0 := by unfold fit2; rw [if_neg (by omega), if_neg (by omega)]
        rw [if_neg (by simpa using g3), h0, if_neg (show ¬ ¬ (0 : Int) = 0 by simp)]
        have step : ∀ k i : Nat, i < a.length → L_ref08_Add_7 n (k + 1) (a, b, tab (fun j => (sumAt a b j).1) i, ((a.length : Nat) : Int), (i : Int), ()) =
            if (sumAt a b i).2 = false then some (Sum.inl ([], 82, ())) else L_ref08_Add_7 n k (a, b, tab (fun j => (sumAt a b j).1) (i + 1), ((a.length : Nat) : Int), (i : Int) + 1, ()) := by
          intro k i hi
          rw [L_ref08_Add_7_eq]
          simp only [brk_ite, decide_eq_true_eq]
          have h4 := ha.at i
          have h5 := hb.at i
          rw [if_pos (by omega), idx_getD hi 0, idx_getD (show i < b.length by omega) 0]
          simp only [Option.bind_some]
          rw [ref02_Add h4.1 h4.2 h5.1 h5.2]
          simp only [Option.bind_some]
          rw [show addI (a.getD i 0) (b.getD i 0) = sumAt a b i from rfl, app_tab (fun j => (sumAt a b j).1) (by unfold room; omega) (by unfold room; omega), w64 (by omega) (by omega)]
          simp only [Option.bind_some, Bool.not_eq_true']
        by_cases hex : ∃ i, i < a.length ∧ (sumAt a b i).2 = false
        · rw [if_pos hex]
          obtain ⟨i0, hi0, hb0⟩ := hex
          obtain ⟨i, hi, hlt, hle⟩ := least (p := fun i => (sumAt a b i).2 = false) i0 hb0
          have hL := loop_st (L := fun k i o => L_ref08_Add_7 n k (a, b, o, ((a.length : Nat) : Int), i, ())) (len := i) (r := Sum.inl ([], 82, ())) (fun i => tab (fun j => (sumAt a b j).1) i)
            (fun k j hj => by rw [step k j (by omega), if_neg (hlt j hj)]) (fun k => by rw [step k i (by omega), if_pos hi]) n (by omega)
          rw [tab_zero] at hL
          rw [hL]; rfl
        · rw [if_neg hex]
          have hL := loop_st (L := fun k i o => L_ref08_Add_7 n k (a, b, o, ((a.length : Nat) : Int), i, ())) (len := a.length) (r := Sum.inr (tab (fun i => (sumAt a b i).1) a.length, ())) (fun i => tab (fun j => (sumAt a b j).1) i)
            (fun k j hj => by rw [step k j hj, if_neg (fun h => hex ⟨j, hj, h⟩)]) (fun k => by
              show L_ref08_Add_7 n (k + 1) _ = _
              rw [L_ref08_Add_7_eq, brk_ite, if_neg (by simp)]) n (by omega)
          rw [tab_zero] at hL
          rw [hL]; rfl
      · have e : fit2 a b = 80 := by unfold fit2; rw [if_neg (by omega), if_pos (by omega)]
        rw [if_pos g3, e]; rfl

/-! ### roots -/

theorem or_add {a : Nat} {j : Nat} (ha : (a + 1) * 2 ^ (j + 1) ≤ 9223372036854775808) : bito .or .i64 ((a * 2 ^ (j + 1) : Nat) : Int) ((2 ^ j : Nat) : Int) = ((a * 2 ^ (j + 1) + 2 ^ j : Nat) : Int) := by
  have hp : 2 ^ j < 2 ^ (j + 1) := Nat.pow_lt_pow_right (by omega) (by omega)
  have hs : a * 2 ^ (j + 1) + 2 ^ j < 9223372036854775808 := by
    rw [Nat.add_mul] at ha; omega
  have h : (BitVec.ofInt (IntKind.bits .i64) ((a * 2 ^ (j + 1) : Nat) : Int) ||| BitVec.ofInt (IntKind.bits .i64) ((2 ^ j : Nat) : Int)).toNat = a * 2 ^ (j + 1) + 2 ^ j := by
    show (BitVec.ofInt 64 ((a * 2 ^ (j + 1) : Nat) : Int) ||| BitVec.ofInt 64 ((2 ^ j : Nat) : Int)).toNat = _
    rw [BitVec.toNat_or, BitVec.ofInt_natCast, BitVec.ofInt_natCast, BitVec.toNat_ofNat, BitVec.toNat_ofNat, Nat.mod_eq_of_lt (by omega), Nat.mod_eq_of_lt (by omega)]
    rw [Nat.mul_comm, Nat.two_pow_add_eq_or_of_lt hp]
  show IntKind.wrap .i64 (((BitVec.ofInt (IntKind.bits .i64) ((a * 2 ^ (j + 1) : Nat) : Int) ||| BitVec.ofInt (IntKind.bits .i64) ((2 ^ j : Nat) : Int)).toNat : Nat) : Int) = _
  rw [h, w64 (by omega) (by omega)]

end Go.Am.Pu
