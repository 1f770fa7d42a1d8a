import Derived.Test.YtfafklfpikjheaaGreatP5
set_option linter.unusedVariables false
set_option linter.unusedSimpArgs false
/- Plain laws: attend (layer 19). -/
namespace Go.Am.Pu
open Go Go.Am

theorem vec_fit8_2 {n : Nat} (hn : 10 ≤ n) {a b : List Int} (h : fit2 a b = 0) : F_vec_fit_int8 n [a, b] = some 0 := by
  obtain ⟨h1, h2, h3⟩ := fit2_zero h
  obtain ⟨k, rfl⟩ : ∃ k, n = k + 4 := ⟨n - 4, by omega⟩
  have e0 : idx [a, b] (0 : Int) = some a := rfl
  have e1 : idx [a, b] (1 : Int) = some b := rfl
  have d1 : IntKind.wrap .i64 ((0 : Int) + 1) = 1 := w64 (by decide) (by decide)
  have d2 : IntKind.wrap .i64 ((1 : Int) + 1) = 2 := w64 (by decide) (by decide)
  rw [F_vec_fit_int8_eq, L_vec_fit_int8_2_eq]
  simp only [brk_ite, List.length_cons, List.length_nil]
  rw [if_pos (by simp), e0]
  simp only [Option.bind_some, decide_eq_true_eq]
  rw [if_neg (by omega), d1, L_vec_fit_int8_2_eq]
  simp only [brk_ite]
  rw [if_pos (by simp), e1]
  simp only [Option.bind_some, decide_eq_true_eq]
  rw [if_neg (by omega), d2, L_vec_fit_int8_2_eq, brk_ite, if_neg (by simp)]
  simp only [Option.bind_some, sumk]
  rw [L_vec_fit_int8_8_eq]
  simp only [brk_ite, List.length_cons, List.length_nil]
  rw [if_pos (by simp), e0]
  simp only [Option.bind_some]
  rw [if_neg (by simp), d1, L_vec_fit_int8_8_eq]
  simp only [brk_ite]
  rw [if_pos (by simp), e1, e0]
  simp only [Option.bind_some, bne_iff_ne, ne_eq]
  rw [if_neg (by omega), d2, L_vec_fit_int8_8_eq, brk_ite, if_neg (by simp)]
  rfl

theorem vec_Dot {n : Nat} {a b : List Int} (ha : all8 a) (hb : all8 b) (hl : a.length = b.length) (hlen : a.length ≤ 1048576) (hn : 2000000000 ≤ n) : F_vec_Dot n (a, b) = some (dotI a b, 0) := by
  rw [F_vec_Dot_eq, vec_fit8_2 (by omega) (by unfold fit2; rw [if_neg (by omega), if_neg (by omega)])]
  simp only [Option.bind_some, brk_ite]
  rw [if_neg (by simp), vec_dot ha hb (by omega) (by omega) hn]
  rfl

/-- rows that go with a row -/
def Fits (q : List Int) (rows : List (List Int)) : Prop := (1 ≤ rows.length ∧ rows.length ≤ 512) ∧ (1 ≤ q.length ∧ q.length ≤ 64) ∧ ∀ i, i < rows.length → (rows.getD i []).length = q.length

open Classical in
noncomputable def fitsB (q : List Int) (rows : List (List Int)) : Bool := decide (Fits q rows)
open Classical in
theorem fitsB_t {q : List Int} {rows : List (List Int)} (h : Fits q rows) : fitsB q rows = true := by unfold fitsB; exact decide_eq_true h
open Classical in
theorem fitsB_f {q : List Int} {rows : List (List Int)} (h : ¬ Fits q rows) : fitsB q rows = false := by unfold fitsB; exact decide_eq_false h

theorem attend_fit {n : Nat} {q : List Int} {rows : List (List Int)} (hn : 2000000000 ≤ n) : F_attend_fit n (q, rows) = some (fitsB q rows) := by
  rw [F_attend_fit_eq]
  simp only [brk_ite, decide_eq_true_eq, beq_iff_eq]
  by_cases h1 : ((rows.length : Nat) : Int) = 0
  · rw [if_pos h1, fitsB_f (fun h => by have := h.1.1; omega)]
  rw [if_neg h1]
  by_cases h2 : ((rows.length : Nat) : Int) > 512
  · rw [if_pos h2, fitsB_f (fun h => by have := h.1.2; omega)]
  rw [if_neg h2]
  by_cases h3 : ((q.length : Nat) : Int) = 0
  · rw [if_pos h3, fitsB_f (fun h => by have := h.2.1.1; omega)]
  rw [if_neg h3]
  by_cases h4 : ((q.length : Nat) : Int) > 64
  · rw [if_pos h4, fitsB_f (fun h => by have := h.2.1.2; omega)]
  rw [if_neg h4]
  have step : ∀ k i : Nat, i < rows.length → L_attend_fit_4 n (k + 1) (q, rows, ((rows.length : Nat) : Int), (i : Int), ()) = if (rows.getD i []).length ≠ q.length then some (Sum.inl (false, ())) else L_attend_fit_4 n k (q, rows, ((rows.length : Nat) : Int), (i : Int) + 1, ()) := by
    intro k i hi
    rw [L_attend_fit_4_eq]
    simp only [brk_ite, decide_eq_true_eq, bne_iff_ne, ne_eq]
    rw [if_pos (by omega), idx_getD hi []]
    simp only [Option.bind_some]
    by_cases h : (rows.getD i []).length = q.length
    · rw [if_neg (by omega), if_neg (by omega), w64 (by omega) (by omega)]
    · rw [if_pos (by omega), if_pos h]
  by_cases hex : ∃ i, i < rows.length ∧ (rows.getD i []).length ≠ q.length
  · obtain ⟨i0, hi0, hb0⟩ := hex
    obtain ⟨i, hi, hlt, hle⟩ := least (p := fun i => (rows.getD i []).length ≠ q.length) i0 hb0
    have hL := loop_st (L := fun k i (_ : Unit) => L_attend_fit_4 n k (q, rows, ((rows.length : Nat) : Int), i, ())) (len := i) (r := Sum.inl (false, ())) (fun _ => ())
      (fun k j hj => by rw [step k j (by omega), if_neg (hlt j hj)]) (fun k => by rw [step k i (by omega), if_pos hi]) n (by omega)
    rw [hL, fitsB_f (fun h => hb0 (h.2.2 i0 hi0))]
    rfl
  · have hL := loop_st (L := fun k i (_ : Unit) => L_attend_fit_4 n k (q, rows, ((rows.length : Nat) : Int), i, ())) (len := rows.length) (r := Sum.inr ()) (fun _ => ())
      (fun k j hj => by rw [step k j hj, if_neg (fun h => hex ⟨j, hj, h⟩)]) (fun k => by
        show L_attend_fit_4 n (k + 1) _ = _
        rw [L_attend_fit_4_eq, brk_ite, if_neg (by simp)]) n (by omega)
    rw [hL, fitsB_t ⟨by omega, by omega, fun i hi => by
      by_cases h : (rows.getD i []).length = q.length
      · exact h
      · exact absurd ⟨i, hi, h⟩ hex⟩]
    rfl

theorem ref19_wrong {n : Nat} {q : List Int} {rows : List (List Int)} (hn : 2000000000 ≤ n) : F_ref19_wrong n (q, rows) = some (!fitsB q rows) := by
  rw [F_ref19_wrong_eq]
  simp only [brk_ite, decide_eq_true_eq]
  by_cases h1 : ((rows.length : Nat) : Int) < 1
  · rw [if_pos h1, fitsB_f (fun h => by have := h.1.1; omega)]; rfl
  rw [if_neg h1]
  by_cases h2 : ((rows.length : Nat) : Int) > 512
  · rw [if_pos h2, fitsB_f (fun h => by have := h.1.2; omega)]; rfl
  rw [if_neg h2]
  by_cases h3 : ((q.length : Nat) : Int) < 1
  · rw [if_pos h3, fitsB_f (fun h => by have := h.2.1.1; omega)]; rfl
  rw [if_neg h3]
  by_cases h4 : ((q.length : Nat) : Int) > 64
  · rw [if_pos h4, fitsB_f (fun h => by have := h.2.1.2; omega)]; rfl
  rw [if_neg h4]
  have step : ∀ k i : Nat, i < rows.length → L_ref19_wrong_4 n (k + 1) (q, rows, (i : Int), ()) = if (rows.getD i []).length ≠ q.length then some (Sum.inl (true, ())) else L_ref19_wrong_4 n k (q, rows, (i : Int) + 1, ()) := by
    intro k i hi
    rw [L_ref19_wrong_4_eq]
    simp only [brk_ite, decide_eq_true_eq, bne_iff_ne, ne_eq]
    rw [if_pos (by omega), idx_getD hi []]
    simp only [Option.bind_some]
    by_cases h : (rows.getD i []).length = q.length
    · rw [if_neg (by omega), if_neg (by omega), w64 (by omega) (by omega)]
    · rw [if_pos (by omega), if_pos h]
  by_cases hex : ∃ i, i < rows.length ∧ (rows.getD i []).length ≠ q.length
  · obtain ⟨i0, hi0, hb0⟩ := hex
    obtain ⟨i, hi, hlt, hle⟩ := least (p := fun i => (rows.getD i []).length ≠ q.length) i0 hb0
    have hL := loop_st (L := fun k i (_ : Unit) => L_ref19_wrong_4 n k (q, rows, i, ())) (len := i) (r := Sum.inl (true, ())) (fun _ => ())
      (fun k j hj => by rw [step k j (by omega), if_neg (hlt j hj)]) (fun k => by rw [step k i (by omega), if_pos hi]) n (by omega)
    rw [hL, fitsB_f (fun h => hb0 (h.2.2 i0 hi0))]
    rfl
  · have hL := loop_st (L := fun k i (_ : Unit) => L_ref19_wrong_4 n k (q, rows, i, ())) (len := rows.length) (r := Sum.inr ()) (fun _ => ())
      (fun k j hj => by rw [step k j hj, if_neg (fun h => hex ⟨j, hj, h⟩)]) (fun k => by
        show L_ref19_wrong_4 n (k + 1) _ = _
        rw [L_ref19_wrong_4_eq, brk_ite, if_neg (by simp)]) n (by omega)
    rw [hL, fitsB_t ⟨by omega, by omega, fun i hi => by
      by_cases h : (rows.getD i []).length = q.length
      · exact h
      · exact absurd ⟨i, hi, h⟩ hex⟩]
    rfl

def rows8 (rows : List (List Int)) : Prop := ∀ r ∈ rows, all8 r
theorem rows8.at {rows : List (List Int)} (h : rows8 rows) (i : Nat) : all8 (rows.getD i []) := by
  by_cases hi : i < rows.length
  · rw [getD_lt hi]; exact h _ (List.getElem_mem hi)
  · rw [List.getD_eq_getElem?_getD, List.getElem?_eq_none (by omega)]; exact fun x hx => (by cases hx)

def scoresL (q : List Int) (keys : List (List Int)) (s : Int) : List Int := tab (fun i => (roundI (dotI q (keys.getD i [])) s).1) keys.length

theorem score_dot {q : List Int} {keys : List (List Int)} (hq : all8 q) (hk : rows8 keys) (hf : Fits q keys) (i : Nat) : -9223372036854775808 ≤ dotI q (keys.getD i []) ∧ dotI q (keys.getD i []) ≤ 9223372036854775807 := by
  have h1 := dotI_rng hq (hk.at i)
  have h2 := hf.2.1.2
  omega
theorem scoresL_all {q : List Int} {keys : List (List Int)} {s : Int} (hq : all8 q) (hk : rows8 keys) (hf : Fits q keys) : all64 (scoresL q keys s) := by
  intro x hx
  obtain ⟨i, _, rfl⟩ := tab_mem hx
  have := score_dot hq hk hf i
  exact roundI_rng this.1 this.2

theorem attend_Scores {n : Nat} {q : List Int} {keys : List (List Int)} {s : Int} (hq : all8 q) (hk : rows8 keys) (hf : Fits q keys) (hs : 0 ≤ s) (hs2 : s ≤ 31) (hn : 2000000000 ≤ n) : F_attend_Scores n (q, keys, s) = some (scoresL q keys s, 0) := by
  rw [F_attend_Scores_eq, attend_fit hn, fitsB_t hf]
  have g1 := hf.1
  have g2 := hf.2.1
  simp only [Option.bind_some, brk_ite, decide_eq_true_eq]
  rw [if_neg (by simp), if_neg (by omega), if_neg (by omega)]
  have hL := loop_st (L := fun k i o => L_attend_Scores_7 n k (q, s, o, keys, ((keys.length : Nat) : Int), i, ())) (len := keys.length) (r := (scoresL q keys s, ())) (fun i => tab (fun i => (roundI (dotI q (keys.getD i [])) s).1) i) ?_ ?_ n (by omega)
  · rw [tab_zero] at hL
    rw [hL]; rfl
  · intro k i hi
    show L_attend_Scores_7 n (k + 1) _ = _
    rw [L_attend_Scores_7_eq]
    simp only [brk_ite, decide_eq_true_eq]
    have b := score_dot hq hk hf i
    rw [if_pos (by omega), idx_getD hi []]
    simp only [Option.bind_some]
    rw [vec_Dot hq (hk.at i) (hf.2.2 i hi).symm (by omega) hn]
    simp only [Option.bind_some]
    rw [fixed_Round b.1 b.2]
    simp only [Option.bind_some]
    rw [app_tab (fun i => (roundI (dotI q (keys.getD i [])) s).1) (by unfold room; omega) (by unfold room; omega), w64 (by omega) (by omega)]
    rfl
  · intro k
    show L_attend_Scores_7 n (k + 1) _ = _
    rw [L_attend_Scores_7_eq, brk_ite, if_neg (by simp)]
    rfl

theorem ref19_Scores {n : Nat} {q : List Int} {keys : List (List Int)} {s : Int} (hq : all8 q) (hk : rows8 keys) (hf : Fits q keys) (hs : 0 ≤ s) (hs2 : s ≤ 31) (hn : 2000000000 ≤ n) : F_ref19_Scores n (q, keys, s) = some (scoresL q keys s, 0) := by
  rw [F_ref19_Scores_eq, ref19_wrong hn, fitsB_t hf]
  have g1 := hf.1
  have g2 := hf.2.1
  simp only [Option.bind_some, brk_ite, decide_eq_true_eq]
  rw [if_neg (by simp), if_neg (by omega), if_neg (by omega)]
  have hL := loop_st (L := fun k i o => L_ref19_Scores_7 n k (q, keys, s, o, i, ())) (len := keys.length) (r := (scoresL q keys s, ())) (fun i => tab (fun i => (roundI (dotI q (keys.getD i [])) s).1) i) ?_ ?_ n (by omega)
  · rw [tab_zero] at hL
    rw [hL]; rfl
  · intro k i hi
    show L_ref19_Scores_7 n (k + 1) _ = _
    rw [L_ref19_Scores_7_eq]
    simp only [brk_ite, decide_eq_true_eq]
    have b := score_dot hq hk hf i
    rw [if_pos (by omega), idx_getD hi []]
    simp only [Option.bind_some]
    rw [ref08_Dot hq (hk.at i) (hf.2.2 i hi).symm (by omega) hn]
    simp only [Option.bind_some]
    rw [ref02_Round (by omega) b.1 b.2]
    simp only [Option.bind_some]
    rw [app_tab (fun i => (roundI (dotI q (keys.getD i [])) s).1) (by unfold room; omega) (by unfold room; omega), w64 (by omega) (by omega)]
    rfl
  · intro k
    show L_ref19_Scores_7 n (k + 1) _ = _
    rw [L_ref19_Scores_7_eq, brk_ite, if_neg (by simp)]
    rfl

noncomputable def headL (q : List Int) (keys values : List (List Int)) (s : Int) : List Int := meansL (weightsL (scoresL q keys s)) values q.length

theorem Fits.rows {q : List Int} {rows : List (List Int)} (h : Fits q rows) (h8 : rows8 rows) : Rows rows q.length := ⟨h.1, h.2.2, h8.at⟩

theorem attend_Head {n : Nat} {q : List Int} {keys values : List (List Int)} {s : Int} (hq : all8 q) (hk : rows8 keys) (hv : rows8 values) (hf : Fits q keys) (hg : Fits q values) (hl : values.length = keys.length) (hs : 0 ≤ s) (hs2 : s ≤ 31) (hn : 2000000000 ≤ n) : F_attend_Head n (q, keys, values, s) = some (headL q keys values s, 0) := by
  have g1 := hf.1
  have g2 := hf.2.1
  have hsl : (scoresL q keys s).length = keys.length := by simp [scoresL]
  rw [F_attend_Head_eq, attend_Scores hq hk hf hs hs2 hn]
  simp only [Option.bind_some, brk_ite, bne_iff_ne, ne_eq]
  rw [if_neg (by simp), if_neg (by omega), attend_fit hn, fitsB_t hg]
  simp only [Option.bind_some]
  rw [if_neg (by simp), soft_Weights (scoresL_all hq hk hf) (by omega) (by omega) hn]
  simp only [Option.bind_some]
  rw [if_neg (by simp), soft_Means (weightsL_good (by omega) (by omega)) (hg.rows hv) (by simp [weightsL]; omega) (by omega) hn]
  rfl

theorem ref19_Head {n : Nat} {q : List Int} {keys values : List (List Int)} {s : Int} (hq : all8 q) (hk : rows8 keys) (hv : rows8 values) (hf : Fits q keys) (hg : Fits q values) (hl : values.length = keys.length) (hs : 0 ≤ s) (hs2 : s ≤ 31) (hn : 2000000000 ≤ n) : F_ref19_Head n (q, keys, values, s) = some (headL q keys values s, 0) := by
  have g1 := hf.1
  have g2 := hf.2.1
  have hsl : (scoresL q keys s).length = keys.length := by simp [scoresL]
  rw [F_ref19_Head_eq, ref19_Scores hq hk hf hs hs2 hn]
  simp only [Option.bind_some, brk_ite, bne_iff_ne, ne_eq]
  rw [if_neg (by simp), if_neg (by omega), ref19_wrong hn, fitsB_t hg]
  simp only [Option.bind_some]
  rw [if_neg (by simp), ref11_Weights (scoresL_all hq hk hf) (by omega) (by omega) hn]
  simp only [Option.bind_some]
  rw [ref11_Means (weightsL_good (by omega) (by omega)) (hg.rows hv) (by simp [weightsL]; omega) (by omega) hn]
  rfl

end Go.Am.Pu

/- Plain laws: what all heads of a row see (layer 19). -/
namespace Go.Am.Pu
open Go Go.Am

def cutR (rows : List (List Int)) (a size : Nat) : List (List Int) := tab (fun i => ((rows.getD i []).drop a).take size) rows.length
theorem cutR_8 {rows : List (List Int)} (h : rows8 rows) (a size : Nat) : rows8 (cutR rows a size) := by
  intro r hr
  obtain ⟨i, _, rfl⟩ := tab_mem hr
  exact (h.at i).sub a size

theorem slc_take {l : List Int} {a b : Nat} (h : a + b ≤ l.length) : slc l (a : Int) ((a : Int) + (b : Int)) = some ((l.drop a).take b) := by
  unfold slc
  rw [if_pos ⟨by omega, by omega, by omega⟩]
  congr 1
  rw [show ((a : Int) + (b : Int)).toNat = a + b by omega, Int.toNat_natCast, List.drop_take]
  congr 1
  omega

theorem attend_cut {n : Nat} {rows : List (List Int)} {a size m : Nat} (hlen : rows.length ≤ 512) (hr : ∀ i, i < rows.length → (rows.getD i []).length = m) (ha : a + size ≤ m) (hm : m ≤ 1000000) (hn : 2000000000 ≤ n) : F_attend_Look_1 n (rows, (a : Int), (size : Int)) = some (cutR rows a size) := by
  rw [F_attend_Look_1_eq]
  have hL := loop_st (L := fun k i o => L_attend_Look_1_3 n k ((a : Int), (size : Int), o, rows, ((rows.length : Nat) : Int), i, ())) (len := rows.length) (r := (cutR rows a size, ())) (fun i => tab (fun i => ((rows.getD i []).drop a).take size) i) ?_ ?_ n (by omega)
  · rw [tab_zero] at hL
    rw [hL]; rfl
  · intro k i hi
    show L_attend_Look_1_3 n (k + 1) _ = _
    rw [L_attend_Look_1_3_eq]
    simp only [brk_ite, decide_eq_true_eq]
    have h1 := hr i hi
    rw [if_pos (by omega), idx_getD hi []]
    simp only [Option.bind_some]
    rw [w64 (x := (a : Int) + (size : Int)) (by omega) (by omega), slc_take (by omega)]
    simp only [Option.bind_some]
    rw [app_tab (fun i => ((rows.getD i []).drop a).take size) (by unfold room; omega) (by unfold room; omega), w64 (by omega) (by omega)]
    rfl
  · intro k
    show L_attend_Look_1_3 n (k + 1) _ = _
    rw [L_attend_Look_1_3_eq, brk_ite, if_neg (by simp)]
    rfl

/-- g 0 ++ .. ++ g (n - 1) -/
def catN (g : Nat → List Int) : Nat → List Int
  | 0 => []
  | h + 1 => catN g h ++ g h
theorem catN_len {g : Nat → List Int} {m : Nat} (hg : ∀ i, (g i).length = m) : ∀ h, (catN g h).length = h * m
  | 0 => by simp [catN]
  | h + 1 => by simp only [catN, List.length_append, catN_len hg h, hg h, Nat.succ_mul]
theorem catN_mem {g : Nat → List Int} {p : Int → Prop} (hg : ∀ i, ∀ x ∈ g i, p x) : ∀ h, ∀ x ∈ catN g h, p x
  | 0, x, hx => by cases hx
  | h + 1, x, hx => by
    rcases List.mem_append.1 hx with hx | hx
    · exact catN_mem hg h x hx
    · exact hg h x hx
theorem app_cat {g : Nat → List Int} {m h : Nat} (hg : ∀ i, (g i).length = m) (hb : (h + 1) * m ≤ 1000000) : app 1 (catN g h) (g h) = some (catN g (h + 1)) := by
  unfold app room
  rw [Nat.succ_mul] at hb
  rw [catN_len hg, hg, if_pos ⟨by omega, by omega⟩]
  rfl

abbrev Pairs := List (List Int × List Int)
def keysOf (past : Pairs) : List (List Int) := tab (fun i => (past.getD i ([], [])).1) past.length
def valuesOf (past : Pairs) : List (List Int) := tab (fun i => (past.getD i ([], [])).2) past.length
/-- what a head sees -/
noncomputable def headAt (q : List Int) (keys values : List (List Int)) (sz : Nat) (s : Int) (h : Nat) : List Int := headL ((q.drop (h * sz)).take sz) (cutR keys (h * sz) sz) (cutR values (h * sz) sz) s
open Classical in
noncomputable def lookI (q : List Int) (heads : Int) (past : Pairs) (s : Int) : List Int × Int :=
  if heads < 1 ∨ (q.length : Int) % heads ≠ 0 then ([], 190) else if ¬ (Fits q (keysOf past) ∧ Fits q (valuesOf past)) then ([], 191) else if s < 0 ∨ s > 31 then ([], 20) else
    (catN (headAt q (keysOf past) (valuesOf past) (q.length / heads.toNat) s) heads.toNat, 0)

theorem sub_len {q : List Int} {sz H h : Nat} (hq : q.length = H * sz) (hh : h < H) : ((q.drop (h * sz)).take sz).length = sz ∧ h * sz + sz ≤ q.length := by
  have : (h + 1) * sz ≤ H * sz := Nat.mul_le_mul_right sz hh
  rw [Nat.succ_mul] at this
  refine ⟨by simp; omega, by omega⟩

theorem cut_fits {q : List Int} {rows : List (List Int)} {sz H h : Nat} (hf : Fits q rows) (hq : q.length = H * sz) (hh : h < H) (hsz : 1 ≤ sz) : Fits ((q.drop (h * sz)).take sz) (cutR rows (h * sz) sz) := by
  have h1 := sub_len hq hh
  have g2 := hf.2.1
  refine ⟨by simpa [cutR] using hf.1, by omega, fun i hi => ?_⟩
  have hi : i < rows.length := by simpa [cutR] using hi
  unfold cutR
  rw [tab_getD _ hi]
  have := hf.2.2 i hi
  rw [h1.1, List.length_take, List.length_drop]
  omega

theorem headAt_len' {q : List Int} {keys values : List (List Int)} {sz : Nat} {s : Int} {h : Nat} : (headAt q keys values sz s h).length = ((q.drop (h * sz)).take sz).length := by simp [headAt, headL, meansL]
theorem headAt_all {q : List Int} {keys values : List (List Int)} {sz : Nat} {s : Int} {h : Nat} : all8 (headAt q keys values sz s h) := by
  intro x hx
  obtain ⟨i, _, rfl⟩ := tab_mem hx
  exact w8_rng _

theorem catN_len' {g : Nat → List Int} {m H : Nat} (hg : ∀ i, i < H → (g i).length = m) : ∀ h, h ≤ H → (catN g h).length = h * m
  | 0, _ => by simp [catN]
  | h + 1, hh => by simp only [catN, List.length_append, catN_len' hg h (by omega), hg h (by omega), Nat.succ_mul]
theorem app_cat' {g : Nat → List Int} {m H h : Nat} (hg : ∀ i, i < H → (g i).length = m) (hh : h < H) (hb : (h + 1) * m ≤ 1000000) : app 1 (catN g h) (g h) = some (catN g (h + 1)) := by
  unfold app room
  rw [Nat.succ_mul] at hb
  rw [catN_len' hg h (by omega), hg h hh, if_pos ⟨by omega, by omega⟩]
  rfl

theorem attend_Look {n : Nat} {q : List Int} {heads s : Int} {past : Pairs} (hq : all8 q) (hp : ∀ p ∈ past, all8 p.1 ∧ all8 p.2) (hql : q.length ≤ 1000000000) (hpl : past.length ≤ 1000000000) (hn : 2000000000 ≤ n) : F_attend_Look n (q, heads, past, s) = some (lookI q heads past s) := by
  have hk8 : rows8 (keysOf past) := by
    intro r hr
    obtain ⟨i, hi, rfl⟩ := tab_mem hr
    rw [getD_lt hi]; exact (hp _ (List.getElem_mem hi)).1
  have hv8 : rows8 (valuesOf past) := by
    intro r hr
    obtain ⟨i, hi, rfl⟩ := tab_mem hr
    rw [getD_lt hi]; exact (hp _ (List.getElem_mem hi)).2
  rw [F_attend_Look_eq]
  unfold lookI
  simp only [brk_ite, decide_eq_true_eq, bne_iff_ne, ne_eq]
  by_cases a1 : heads < 1
  · rw [if_pos a1, if_pos (.inl a1)]
  rw [if_neg a1, rm_nn (by omega) (by omega)]
  simp only [Option.bind_some]
  by_cases a2 : ¬ (q.length : Int) % heads = 0
  · rw [if_pos a2, if_pos (.inr a2)]
  have a2 : (q.length : Int) % heads = 0 := by omega
  rw [if_neg (by simpa using a2), if_neg (show ¬ (heads < 1 ∨ ¬ (q.length : Int) % heads = 0) by omega)]
  have hA := loop_st (L := fun k i (o : List (List Int) × List (List Int)) => L_attend_Look_5 n k (q, heads, s, o.1, o.2, past, ((past.length : Nat) : Int), i, ())) (len := past.length) (r := (q, heads, s, keysOf past, valuesOf past, ())) (fun i => (tab (fun i => (past.getD i ([], [])).1) i, tab (fun i => (past.getD i ([], [])).2) i)) ?_ ?_ n (by omega)
  · simp only [tab_zero] at hA
    rw [hA]
    simp only [Option.bind_some]
    rw [attend_fit hn]
    simp only [Option.bind_some]
    by_cases a3 : Fits q (keysOf past)
    · rw [fitsB_t a3, if_neg (by simp), attend_fit hn]
      simp only [Option.bind_some]
      by_cases a4 : Fits q (valuesOf past)
      · rw [fitsB_t a4, if_neg (by simp), if_neg (show ¬ ¬ (Fits q (keysOf past) ∧ Fits q (valuesOf past)) from fun h => h ⟨a3, a4⟩)]
        by_cases a5 : s < 0
        · rw [if_pos a5, if_pos (.inl a5)]
        rw [if_neg a5]
        by_cases a6 : s > 31
        · rw [if_pos a6, if_pos (.inr a6)]
        rw [if_neg a6, if_neg (by omega)]
        obtain ⟨H, rfl⟩ : ∃ H : Nat, heads = (H : Int) := ⟨heads.toNat, by omega⟩
        rw [Int.toNat_natCast]
        have g2 := a3.2.1
        have hmod : q.length % H = 0 := by omega
        have hqH : q.length = H * (q.length / H) := by have := Nat.div_add_mod q.length H; omega
        obtain ⟨sz, hsz⟩ : ∃ sz, sz = q.length / H := ⟨_, rfl⟩
        rw [← hsz] at hqH ⊢
        have hsz1 : 1 ≤ sz := by
          by_cases h : sz = 0
          · rw [h] at hqH; omega
          · omega
        rw [qt_nn' (by omega) (by omega) (by omega), show ((q.length : Nat) : Int) / (H : Int) = (sz : Int) by rw [hsz]; simp]
        simp only [Option.bind_some]
        have hlen : ∀ i, i < H → (headAt q (keysOf past) (valuesOf past) sz s i).length = sz := fun i hi => by rw [headAt_len']; exact (sub_len hqH hi).1
        have hHq : H ≤ q.length := by rw [hqH]; exact Nat.le_mul_of_pos_right _ hsz1
        have hL := loop_st (L := fun k (h : Int) o => L_attend_Look_16 n k (q, s, keysOf past, valuesOf past, (), o, (h * (sz : Int), ()), ((sz : Int), ()), ())) (len := H) (r := Sum.inr (catN (headAt q (keysOf past) (valuesOf past) sz s) H, ())) (fun h => catN (headAt q (keysOf past) (valuesOf past) sz s) h) ?_ ?_ n (by omega)
        · rw [show catN (headAt q (keysOf past) (valuesOf past) sz s) 0 = [] from rfl] at hL
          simp only [Int.zero_mul] at hL
          rw [hL]; rfl
        · intro k h hh
          show L_attend_Look_16 n (k + 1) _ = _
          rw [L_attend_Look_16_eq]
          simp only [brk_ite, decide_eq_true_eq]
          have b1 := sub_len hqH hh
          have b2 : (h + 1) * sz ≤ H * sz := Nat.mul_le_mul_right sz hh
          rw [Nat.succ_mul] at b2
          have e1 : (h : Int) * (sz : Int) = ((h * sz : Nat) : Int) := by simp
          rw [e1, if_pos (by omega), w64 (x := ((h * sz : Nat) : Int) + (sz : Int)) (by omega) (by omega), slc_take (by omega)]
          simp only [Option.bind_some]
          rw [attend_cut (m := q.length) a3.1.2 a3.2.2 (by omega) (by omega) hn]
          simp only [Option.bind_some]
          rw [attend_cut (m := q.length) a4.1.2 a4.2.2 (by omega) (by omega) hn]
          simp only [Option.bind_some]
          rw [attend_Head (hq.sub _ _) (cutR_8 hk8 _ _) (cutR_8 hv8 _ _) (cut_fits a3 hqH hh hsz1) (cut_fits a4 hqH hh hsz1) (by simp [cutR, keysOf, valuesOf]) (by omega) (by omega) hn]
          simp only [Option.bind_some, bne_self_eq_false, Bool.false_eq_true, if_false]
          rw [show headL ((q.drop (h * sz)).take sz) (cutR (keysOf past) (h * sz) sz) (cutR (valuesOf past) (h * sz) sz) s = headAt q (keysOf past) (valuesOf past) sz s h from rfl]
          rw [app_cat' hlen hh (by rw [Nat.succ_mul]; omega)]
          simp only [Option.bind_some]
          rw [show ((h * sz : Nat) : Int) + (sz : Int) = ((h : Int) + 1) * (sz : Int) by rw [Int.add_mul]; simp]
        · intro k
          show L_attend_Look_16 n (k + 1) _ = _
          have e1 : (H : Int) * (sz : Int) = ((H * sz : Nat) : Int) := by simp
          rw [L_attend_Look_16_eq, brk_ite, e1, if_neg (by simp; omega)]
      · rw [fitsB_f a4, if_pos (by simp), if_pos (show ¬ (Fits q (keysOf past) ∧ Fits q (valuesOf past)) from fun h => a4 h.2)]
    · rw [fitsB_f a3, if_pos (by simp), if_pos (show ¬ (Fits q (keysOf past) ∧ Fits q (valuesOf past)) from fun h => a3 h.1)]
  · intro k i hi
    show L_attend_Look_5 n (k + 1) _ = _
    rw [L_attend_Look_5_eq]
    simp only [brk_ite, decide_eq_true_eq]
    rw [if_pos (by omega), idx_getD hi ([], [])]
    simp only [Option.bind_some]
    rw [app_tab (fun i => (past.getD i ([], [])).1) (by unfold room; omega) (by unfold room; omega)]
    simp only [Option.bind_some]
    rw [app_tab (fun i => (past.getD i ([], [])).2) (by unfold room; omega) (by unfold room; omega), w64 (by omega) (by omega)]
    rfl
  · intro k
    show L_attend_Look_5 n (k + 1) _ = _
    rw [L_attend_Look_5_eq, brk_ite, if_neg (by simp)]
    rfl

theorem ref19_cut {n : Nat} {q : List Int} {H s sz h : Nat} {past : Pairs} {out : List Int} {ss : Int} (f1 : Fits q (keysOf past)) (f2 : Fits q (valuesOf past)) (hqH : q.length = H * sz) (hh : h < H) (hn : 2000000000 ≤ n) :
    L_ref19_Look_20 n n (q, (H : Int), past, ss, keysOf past, valuesOf past, (sz : Int), out, (h : Int), [], [], 0, ()) = some (q, (H : Int), past, ss, keysOf past, valuesOf past, (sz : Int), out, (h : Int), cutR (keysOf past) (h * sz) sz, cutR (valuesOf past) (h * sz) sz, ()) := by
  have hpl : past.length ≤ 512 := by have := f1.1.2; simpa [keysOf] using this
  have hkl : (keysOf past).length = past.length := by simp [keysOf]
  have hvl : (valuesOf past).length = past.length := by simp [valuesOf]
  have g2 := f1.2.1
  have b1 := sub_len hqH hh
  have e1 : (h : Int) * (sz : Int) = ((h * sz : Nat) : Int) := by simp
  have e2 : ((h : Int) + 1) * (sz : Int) = ((h * sz : Nat) : Int) + (sz : Int) := by rw [Int.add_mul, e1]; simp
  have hL := loop_st (L := fun k i (o : List (List Int) × List (List Int)) => L_ref19_Look_20 n k (q, (H : Int), past, ss, keysOf past, valuesOf past, (sz : Int), out, (h : Int), o.1, o.2, i, ())) (len := past.length)
    (r := (q, (H : Int), past, ss, keysOf past, valuesOf past, (sz : Int), out, (h : Int), cutR (keysOf past) (h * sz) sz, cutR (valuesOf past) (h * sz) sz, ())) (fun i => (tab (fun i => (((keysOf past).getD i []).drop (h * sz)).take sz) i, tab (fun i => (((valuesOf past).getD i []).drop (h * sz)).take sz) i)) ?_ ?_ n (by omega)
  · simp only [tab_zero] at hL
    exact hL
  · intro k i hi
    show L_ref19_Look_20 n (k + 1) _ = _
    rw [L_ref19_Look_20_eq]
    simp only [brk_ite, decide_eq_true_eq]
    have c1 := f1.2.2 i (by omega)
    have c2 := f2.2.2 i (by omega)
    have hH : H ≤ q.length ∨ sz = 0 := by
      by_cases h0 : sz = 0
      · exact .inr h0
      · exact .inl (by rw [hqH]; exact Nat.le_mul_of_pos_right _ (by omega))
    rw [if_pos (by omega), idx_getD (show i < (keysOf past).length by omega) []]
    simp only [Option.bind_some]
    rw [w64 (x := (h : Int) * (sz : Int)) (by omega) (by omega)]
    rw [show IntKind.wrap .i64 (IntKind.wrap .i64 ((h : Int) + 1) * (sz : Int)) = ((h * sz : Nat) : Int) + (sz : Int) by
      rcases hH with hH | hH
      · rw [w64 (x := (h : Int) + 1) (by omega) (by omega), e2, w64 (by omega) (by omega)]
      · subst hH
        simp only [Nat.mul_zero, Int.natCast_zero, Int.mul_zero, Int.add_zero]
        exact w64 (by omega) (by omega)]
    rw [e1, slc_take (by omega)]
    simp only [Option.bind_some]
    rw [app_tab (fun i => (((keysOf past).getD i []).drop (h * sz)).take sz) (by unfold room; omega) (by unfold room; omega)]
    simp only [Option.bind_some]
    rw [idx_getD (show i < (valuesOf past).length by omega) []]
    simp only [Option.bind_some]
    rw [slc_take (by omega)]
    simp only [Option.bind_some]
    rw [app_tab (fun i => (((valuesOf past).getD i []).drop (h * sz)).take sz) (by unfold room; omega) (by unfold room; omega), w64 (by omega) (by omega)]
    rfl
  · intro k
    show L_ref19_Look_20 n (k + 1) _ = _
    rw [L_ref19_Look_20_eq, brk_ite, if_neg (by simp)]
    show some (_, _, _, _, _, _, _, _, _, tab _ _, tab _ _, ()) = _
    unfold cutR
    rw [hkl, hvl]

theorem ref19_Look {n : Nat} {q : List Int} {heads s : Int} {past : Pairs} (hq : all8 q) (hp : ∀ p ∈ past, all8 p.1 ∧ all8 p.2) (hql : q.length ≤ 1000000000) (hpl : past.length ≤ 1000000000) (hn : 2000000000 ≤ n) : F_ref19_Look n (q, heads, past, s) = some (lookI q heads past s) := by
  have hk8 : rows8 (keysOf past) := by
    intro r hr
    obtain ⟨i, hi, rfl⟩ := tab_mem hr
    rw [getD_lt hi]; exact (hp _ (List.getElem_mem hi)).1
  have hv8 : rows8 (valuesOf past) := by
    intro r hr
    obtain ⟨i, hi, rfl⟩ := tab_mem hr
    rw [getD_lt hi]; exact (hp _ (List.getElem_mem hi)).2
  rw [F_ref19_Look_eq]
  unfold lookI
  simp only [brk_ite, decide_eq_true_eq, bne_iff_ne, ne_eq]
  by_cases a1 : heads < 1
  · rw [if_pos a1, if_pos (.inl a1)]
  rw [if_neg a1, rm_nn (by omega) (by omega)]
  simp only [Option.bind_some]
  by_cases a2 : ¬ (q.length : Int) % heads = 0
  · rw [if_pos a2, if_pos (.inr a2)]
  have a2 : (q.length : Int) % heads = 0 := by omega
  rw [if_neg (by simpa using a2), if_neg (show ¬ (heads < 1 ∨ ¬ (q.length : Int) % heads = 0) by omega)]
  have hA := loop_st (L := fun k i (o : List (List Int) × List (List Int)) => L_ref19_Look_5 n k (q, heads, past, s, o.1, o.2, i, ())) (len := past.length) (r := (q, heads, past, s, keysOf past, valuesOf past, ())) (fun i => (tab (fun i => (past.getD i ([], [])).1) i, tab (fun i => (past.getD i ([], [])).2) i)) ?_ ?_ n (by omega)
  · simp only [tab_zero] at hA
    rw [hA]
    simp only [Option.bind_some]
    rw [ref19_wrong hn]
    simp only [Option.bind_some]
    by_cases a3 : Fits q (keysOf past)
    · rw [fitsB_t a3, if_neg (by simp), ref19_wrong hn]
      simp only [Option.bind_some]
      by_cases a4 : Fits q (valuesOf past)
      · rw [fitsB_t a4, if_neg (by simp), if_neg (show ¬ ¬ (Fits q (keysOf past) ∧ Fits q (valuesOf past)) from fun h => h ⟨a3, a4⟩)]
        by_cases a5 : s < 0
        · rw [if_pos a5, if_pos (.inl a5)]
        rw [if_neg a5]
        by_cases a6 : s > 31
        · rw [if_pos a6, if_pos (.inr a6)]
        rw [if_neg a6, if_neg (by omega)]
        obtain ⟨H, rfl⟩ : ∃ H : Nat, heads = (H : Int) := ⟨heads.toNat, by omega⟩
        rw [Int.toNat_natCast]
        have g2 := a3.2.1
        have hmod : q.length % H = 0 := by omega
        have hqH : q.length = H * (q.length / H) := by have := Nat.div_add_mod q.length H; omega
        obtain ⟨sz, hsz⟩ : ∃ sz, sz = q.length / H := ⟨_, rfl⟩
        rw [← hsz] at hqH ⊢
        have hsz1 : 1 ≤ sz := by
          by_cases h : sz = 0
          · rw [h] at hqH; omega
          · omega
        rw [qt_nn' (by omega) (by omega) (by omega), show ((q.length : Nat) : Int) / (H : Int) = (sz : Int) by rw [hsz]; simp]
        simp only [Option.bind_some]
        have hlen : ∀ i, i < H → (headAt q (keysOf past) (valuesOf past) sz s i).length = sz := fun i hi => by rw [headAt_len']; exact (sub_len hqH hi).1
        have hHq : H ≤ q.length := by rw [hqH]; exact Nat.le_mul_of_pos_right _ hsz1
        have hL := loop_st (L := fun k (h : Int) o => L_ref19_Look_16 n k (q, (H : Int), past, s, keysOf past, valuesOf past, (sz : Int), o, h, ())) (len := H) (r := (catN (headAt q (keysOf past) (valuesOf past) sz s) H, ())) (fun h => catN (headAt q (keysOf past) (valuesOf past) sz s) h) ?_ ?_ n (by omega)
        · rw [show catN (headAt q (keysOf past) (valuesOf past) sz s) 0 = [] from rfl] at hL
          rw [hL]; rfl
        · intro k h hh
          show L_ref19_Look_16 n (k + 1) _ = _
          rw [L_ref19_Look_16_eq]
          simp only [brk_ite, decide_eq_true_eq]
          have b1 := sub_len hqH hh
          have b2 : (h + 1) * sz ≤ H * sz := Nat.mul_le_mul_right sz hh
          rw [Nat.succ_mul] at b2
          have e1 : (h : Int) * (sz : Int) = ((h * sz : Nat) : Int) := by simp
          have e2 : ((h : Int) + 1) * (sz : Int) = ((h * sz : Nat) : Int) + (sz : Int) := by rw [Int.add_mul, e1]; simp
          rw [if_pos (by omega), ref19_cut (s := 0) a3 a4 hqH hh hn]
          simp only [Option.bind_some]
          rw [w64 (x := (h : Int) * (sz : Int)) (by omega) (by omega), w64 (x := (h : Int) + 1) (by omega) (by omega), e1, e2, w64 (x := ((h * sz : Nat) : Int) + (sz : Int)) (by omega) (by omega), slc_take (by omega)]
          simp only [Option.bind_some]
          rw [ref19_Head (hq.sub _ _) (cutR_8 hk8 _ _) (cutR_8 hv8 _ _) (cut_fits a3 hqH hh hsz1) (cut_fits a4 hqH hh hsz1) (by simp [cutR, keysOf, valuesOf]) (by omega) (by omega) hn]
          simp only [Option.bind_some]
          rw [show headL ((q.drop (h * sz)).take sz) (cutR (keysOf past) (h * sz) sz) (cutR (valuesOf past) (h * sz) sz) s = headAt q (keysOf past) (valuesOf past) sz s h from rfl]
          rw [app_cat' hlen hh (by rw [Nat.succ_mul]; omega)]
          rfl
        · intro k
          show L_ref19_Look_16 n (k + 1) _ = _
          rw [L_ref19_Look_16_eq, brk_ite, if_neg (by simp)]
      · rw [fitsB_f a4, if_pos (by simp), if_pos (show ¬ (Fits q (keysOf past) ∧ Fits q (valuesOf past)) from fun h => a4 h.2)]
    · rw [fitsB_f a3, if_pos (by simp), if_pos (show ¬ (Fits q (keysOf past) ∧ Fits q (valuesOf past)) from fun h => a3 h.1)]
  · intro k i hi
    show L_ref19_Look_5 n (k + 1) _ = _
    rw [L_ref19_Look_5_eq]
    simp only [brk_ite, decide_eq_true_eq]
    rw [if_pos (by omega), idx_getD hi ([], [])]
    simp only [Option.bind_some]
    rw [app_tab (fun i => (past.getD i ([], [])).1) (by unfold room; omega) (by unfold room; omega)]
    simp only [Option.bind_some]
    rw [app_tab (fun i => (past.getD i ([], [])).2) (by unfold room; omega) (by unfold room; omega), w64 (by omega) (by omega)]
    rfl
  · intro k
    show L_ref19_Look_5 n (k + 1) _ = _
    rw [L_ref19_Look_5_eq, brk_ite, if_neg (by simp)]
    rfl

theorem lookI_all {q : List Int} {heads s : Int} {past : Pairs} : all8 (lookI q heads past s).1 := by
  unfold lookI
  split
  · exact fun x hx => (by cases hx)
  · split
    · exact fun x hx => (by cases hx)
    · split
      · exact fun x hx => (by cases hx)
      · exact catN_mem (p := fun x => -128 ≤ x ∧ x ≤ 127) (fun i x hx => headAt_all x hx) _
theorem lookI_len {q : List Int} {heads s : Int} {past : Pairs} : (lookI q heads past s).1.length ≤ q.length := by
  unfold lookI
  split
  · simp
  · rename_i a1
    split
    · simp
    · split
      · simp
      · obtain ⟨H, rfl⟩ : ∃ H : Nat, heads = (H : Int) := ⟨heads.toNat, by omega⟩
        rw [Int.toNat_natCast]
        have hqH : q.length = H * (q.length / H) := by have := Nat.div_add_mod q.length H; omega
        show (catN _ H).length ≤ _
        rw [catN_len' (m := q.length / H) (H := H) (fun i hi => by rw [headAt_len']; exact (sub_len hqH hi).1) H (Nat.le_refl _)]
        omega

end Go.Am.Pu
