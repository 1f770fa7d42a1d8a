import Derived.Test.YtfafklfpikjheaaGreatP14
set_option linter.unusedVariables false
set_option linter.unusedSimpArgs false
/- Plain laws: valid models and their reaches (layer 16). -/
namespace Go.Am.Pu
open Go Go.Am

theorem absN {l : List Int} (h : all8 l) (i : Nat) : 0 ≤ sumN (fun i => absI (l.getD i 0)) i ∧ sumN (fun i => absI (l.getD i 0)) i ≤ i * 128 := by
  refine sumN_rng' _ fun j _ => ?_
  have h1 := h.at j
  unfold absI
  split <;> omega

theorem ref08_Sizes {n : Nat} {w : List Int} {r c : Nat} (hw : w.length = r * c) (hb : r * c ≤ 1048576) (hc : 1 ≤ c) (h8 : all8 w) (hn : 2000000000 ≤ n) : F_ref08_Sizes n (w, (c : Int)) = some (tab (fun j => sizeI (rowN w c j)) r, 0) := by
  have hr : r ≤ 1048576 := by
    have := Nat.le_mul_of_pos_right r (show 0 < c by omega)
    omega
  have hm : w.length % c = 0 := by rw [hw]; exact Nat.mul_mod_left _ _
  have hd : w.length / c = r := by rw [hw]; exact Nat.mul_div_cancel _ (by omega)
  have hmat : matI w (c : Int) = 0 := by
    unfold matI
    rw [if_neg (by omega), if_neg (by omega)]
  rw [F_ref08_Sizes_eq, ref08_Matrix, hmat]
  simp only [Option.bind_some, brk_ite]
  rw [if_neg (by simp)]
  have hL := loop_st (L := fun k j s => L_ref08_Sizes_6 n k (w, (c : Int), s, j * (c : Int), ())) (len := r) (r := (tab (fun j => sizeI (rowN w c j)) r, ())) (fun j => tab (fun j => sizeI (rowN w c j)) j) ?_ ?_ n (by omega)
  · rw [Int.zero_mul, tab_zero] at hL
    rw [hL]; rfl
  · intro k j hj
    have hjw : j < w.length / c := by rw [hd]; exact hj
    have hlen := len_div hm hjw
    have hrl := rowN_len hm hjw
    have h8r : all8 (rowN w c j) := h8.sub _ _
    show L_ref08_Sizes_6 n (k + 1) _ = _
    rw [show (j : Int) * (c : Int) = ((j * c : Nat) : Int) by simp]
    rw [L_ref08_Sizes_6_eq, brk_ite, if_pos (by rw [decide_eq_true_eq]; omega), w64 (x := ((j * c : Nat) : Int) + (c : Int)) (by omega) (by omega), slc_row hm hjw]
    simp only [Option.bind_some]
    have hI := loop_st (L := fun k i s => L_ref08_Sizes_10 n k (w, (c : Int), tab (fun j => sizeI (rowN w c j)) j, ((j * c : Nat) : Int), s, rowN w c j, (((rowN w c j).length : Nat) : Int), i, ())) (len := (rowN w c j).length) (r := (w, (c : Int), tab (fun j => sizeI (rowN w c j)) j, ((j * c : Nat) : Int), sizeI (rowN w c j), ())) (fun i => sumN (fun i => absI ((rowN w c j).getD i 0)) i) ?_ ?_ n (by omega)
    · rw [show sumN (fun i => absI ((rowN w c j).getD i 0)) 0 = 0 from rfl] at hI
      rw [hI]
      simp only [Option.bind_some]
      rw [app_tab _ (by unfold room; omega) (by unfold room; omega)]
      simp only [Option.bind_some]
      rw [w64 (by omega) (by omega), show ((j * c : Nat) : Int) + (c : Int) = ((j : Int) + 1) * (c : Int) by rw [Int.add_mul]; simp]
    · intro k i hi
      have h1 := h8r.at i
      have h2 := absN h8r i
      show L_ref08_Sizes_10 n (k + 1) _ = _
      rw [L_ref08_Sizes_10_eq, brk_ite, if_pos (by rw [decide_eq_true_eq]; omega), idx_getD hi 0]
      simp only [Option.bind_some, brk_ite, decide_eq_true_eq]
      rw [w64 (x := (rowN w c j).getD i 0) (by omega) (by omega)]
      show _ = L_ref08_Sizes_10 n k (w, (c : Int), _, _, sumN (fun i => absI ((rowN w c j).getD i 0)) i + absI ((rowN w c j).getD i 0), _, _, _, ())
      unfold absI
      split
      · simp only [Option.bind_some]
        rw [w64 (x := (i : Int) + 1) (by omega) (by omega), w64 (by unfold absI at h2; omega) (by unfold absI at h2; omega)]
        rfl
      · simp only [Option.bind_some]
        rw [w64 (x := (i : Int) + 1) (by omega) (by omega), w64 (by unfold absI at h2; omega) (by unfold absI at h2; omega)]
    · intro k
      show L_ref08_Sizes_10 n (k + 1) _ = _
      rw [L_ref08_Sizes_10_eq, brk_ite, if_neg (by simp)]
      rfl
  · intro k
    show L_ref08_Sizes_6 n (k + 1) _ = _
    rw [L_ref08_Sizes_6_eq, brk_ite, if_neg (by rw [decide_eq_true_eq, hw]; simp)]

/-- what a matrix adds at most -/
theorem ref16_most {n : Nat} {w : List Int} {r c : Nat} {s : Int} (hw : w.length = r * c) (hb : r * c ≤ 1048576) (hc : 1 ≤ c) (hc2 : c ≤ 256) (h8 : all8 w) (hs : 0 ≤ s) (hs2 : s ≤ 31) (hn : 2000000000 ≤ n) :
    ∃ a, F_ref16_most n (w, (c : Int), s) = some a ∧ 0 ≤ a ∧ a ≤ 4194304 ∧ ∀ j, j < r → (roundI (127 * sizeI (rowN w c j)) s).1 ≤ a := by
  have hr : r ≤ 1048576 := by
    have := Nat.le_mul_of_pos_right r (show 0 < c by omega)
    omega
  have hm : w.length % c = 0 := by rw [hw]; exact Nat.mul_mod_left _ _
  have hd : w.length / c = r := by rw [hw]; exact Nat.mul_div_cancel _ (by omega)
  rw [F_ref16_most_eq, ref08_Sizes hw hb hc h8 hn]
  simp only [Option.bind_some]
  obtain ⟨q, h1, h2⟩ := loop_inv (L := fun k j a => L_ref16_most_4 n k (s, a, tab (fun j => sizeI (rowN w c j)) r, (((tab (fun j => sizeI (rowN w c j)) r).length : Nat) : Int), j, ())) (len := r)
    (fun i a => 0 ≤ a ∧ a ≤ 4194304 ∧ ∀ j, j < i → (roundI (127 * sizeI (rowN w c j)) s).1 ≤ a) (fun q => 0 ≤ q.1 ∧ q.1 ≤ 4194304 ∧ ∀ j, j < r → (roundI (127 * sizeI (rowN w c j)) s).1 ≤ q.1) (by
    intro k j a hj ⟨a1, a2, a3⟩
    right
    have hjw : j < w.length / c := by rw [hd]; exact hj
    have hrl := rowN_len hm hjw
    have hsz := sizeI_rng (l := rowN w c j) (h8.sub _ _)
    rw [hrl] at hsz
    have hrn := round_nonneg (x := 127 * sizeI (rowN w c j)) (s := s) (by omega) hs (by omega)
    have hrb := round_le (x := 127 * sizeI (rowN w c j)) (s := s) (by omega) hs (by omega)
    show ∃ s', L_ref16_most_4 n (k + 1) _ = _ ∧ _
    rw [L_ref16_most_4_eq, brk_ite, if_pos (by rw [decide_eq_true_eq]; simp; omega), idx_getD (by simp; exact hj) 0, tab_getD _ hj]
    simp only [Option.bind_some, brk_ite, decide_eq_true_eq]
    rw [w64 (x := 127 * sizeI (rowN w c j)) (by omega) (by omega), ref02_Round (by omega) (by omega) (by omega)]
    simp only [Option.bind_some]
    split
    · simp only [Option.bind_some]
      rw [w64 (by omega) (by omega)]
      refine ⟨_, rfl, by omega, by omega, fun i hi => ?_⟩
      by_cases hij : i = j
      · rw [hij]; omega
      · have := a3 i (by omega)
        omega
    · simp only [Option.bind_some]
      rw [w64 (by omega) (by omega)]
      refine ⟨_, rfl, by omega, by omega, fun i hi => ?_⟩
      by_cases hij : i = j
      · rw [hij]; omega
      · exact a3 i (by omega)) (by
    intro k a ha
    show ∃ q, L_ref16_most_4 n (k + 1) _ = some q ∧ _
    rw [L_ref16_most_4_eq, brk_ite, if_neg (by simp)]
    exact ⟨_, rfl, ha⟩) n 0 (by omega) ⟨by omega, by omega, fun j hj => by omega⟩
  rw [h1]
  exact ⟨q.1, rfl, h2⟩

theorem ref16_block {n : Nat} {s : Shp} {b : Blo} {D Hd : Nat} (hD : s.2.2.1 = (D : Int)) (hH : s.2.2.2.2.2 = (Hd : Int)) (hD2 : D ≤ 64) (hH2 : Hd ≤ 256) (hn : 2000000000 ≤ n) : ∃ r, F_ref16_block n (s, b) = some r ∧ (r = 0 → BlkOk D Hd b) := by
  have m1 : D * D ≤ 64 * 64 := Nat.mul_le_mul hD2 hD2
  have m2 : Hd * D ≤ 256 * 64 := Nat.mul_le_mul hH2 hD2
  have m3 : D * Hd ≤ 64 * 256 := Nat.mul_le_mul hD2 hH2
  have e1 : IntKind.wrap .i64 ((D : Int) * (D : Int)) = ((D * D : Nat) : Int) := by rw [show (D : Int) * (D : Int) = ((D * D : Nat) : Int) by simp]; exact w64 (by omega) (by omega)
  have e2 : IntKind.wrap .i64 ((Hd : Int) * (D : Int)) = ((Hd * D : Nat) : Int) := by rw [show (Hd : Int) * (D : Int) = ((Hd * D : Nat) : Int) by simp]; exact w64 (by omega) (by omega)
  have e3 : IntKind.wrap .i64 ((D : Int) * (Hd : Int)) = ((D * Hd : Nat) : Int) := by rw [show (D : Int) * (Hd : Int) = ((D * Hd : Nat) : Int) by simp]; exact w64 (by omega) (by omega)
  rw [F_ref16_block_eq, hD, hH, e1, e2, e3]
  simp only [brk_ite, bne_iff_ne, ne_eq]
  have out : ∃ r, (some (161 : Int)) = some r ∧ (r = 0 → BlkOk D Hd b) := ⟨161, rfl, fun h => by cases h⟩
  by_cases c1 : ¬ ((b.1.length : Nat) : Int) = (D : Int)
  · rw [if_pos c1]; exact out
  rw [if_neg c1]
  by_cases c2 : ¬ ((b.2.2.2.2.2.1.length : Nat) : Int) = (D : Int)
  · rw [if_pos c2]; exact out
  rw [if_neg c2]
  by_cases c3 : ¬ ((b.2.1.length : Nat) : Int) = ((D * D : Nat) : Int)
  · rw [if_pos c3]; exact out
  rw [if_neg c3]
  by_cases c4 : ¬ ((b.2.2.1.length : Nat) : Int) = ((D * D : Nat) : Int)
  · rw [if_pos c4]; exact out
  rw [if_neg c4]
  by_cases c5 : ¬ ((b.2.2.2.1.length : Nat) : Int) = ((D * D : Nat) : Int)
  · rw [if_pos c5]; exact out
  rw [if_neg c5]
  by_cases c6 : ¬ ((b.2.2.2.2.1.length : Nat) : Int) = ((D * D : Nat) : Int)
  · rw [if_pos c6]; exact out
  rw [if_neg c6]
  by_cases c7 : ¬ ((b.2.2.2.2.2.2.2.2.2.2.2.1.length : Nat) : Int) = ((Hd * D : Nat) : Int)
  · rw [if_pos c7]; exact out
  rw [if_neg c7]
  by_cases c8 : ¬ ((b.2.2.2.2.2.2.2.2.2.2.2.2.1.length : Nat) : Int) = ((Hd * D : Nat) : Int)
  · rw [if_pos c8]; exact out
  rw [if_neg c8]
  by_cases c9 : ¬ ((b.2.2.2.2.2.2.2.2.2.2.2.2.2.1.length : Nat) : Int) = ((D * Hd : Nat) : Int)
  · rw [if_pos c9]; exact out
  rw [if_neg c9]
  obtain ⟨l, hl⟩ : ∃ l : List Int, l = [b.2.2.2.2.2.2.1, b.2.2.2.2.2.2.2.1, b.2.2.2.2.2.2.2.2.1, b.2.2.2.2.2.2.2.2.2.1, b.2.2.2.2.2.2.2.2.2.2.1, b.2.2.2.2.2.2.2.2.2.2.2.2.2.2.1, b.2.2.2.2.2.2.2.2.2.2.2.2.2.2.2.1, b.2.2.2.2.2.2.2.2.2.2.2.2.2.2.2.2] := ⟨_, rfl⟩
  rw [← hl]
  have hll : l.length = 8 := by rw [hl]; rfl
  obtain ⟨q, h1, h2⟩ := loop_inv (L := fun k j (_ : Unit) => L_ref16_block_7 n k (l, ((l.length : Nat) : Int), j, ())) (len := l.length) (fun i _ => ∀ j, j < i → 0 ≤ l.getD j 0 ∧ l.getD j 0 ≤ 31) (fun q => (∃ x, q = .inl (162, x)) ∨ (q = .inr () ∧ ∀ j, j < l.length → 0 ≤ l.getD j 0 ∧ l.getD j 0 ≤ 31)) (by
    intro k j _ hj hI
    show (∃ r, L_ref16_block_7 n (k + 1) _ = some r ∧ _) ∨ ∃ s', L_ref16_block_7 n (k + 1) _ = _ ∧ _
    rw [L_ref16_block_7_eq, brk_ite, if_pos (by rw [decide_eq_true_eq]; omega), idx_getD hj 0]
    simp only [Option.bind_some, brk_ite]
    rw [ref16_within]
    simp only [Option.bind_some]
    by_cases c : ¬ (0 ≤ l.getD j 0 ∧ l.getD j 0 ≤ 31)
    · rw [if_pos (by simp only [Bool.not_eq_true', decide_eq_false_iff_not]; exact c)]
      exact .inl ⟨_, rfl, .inl ⟨(), rfl⟩⟩
    · have c := Decidable.not_not.1 c
      rw [if_neg (by simp only [Bool.not_eq_true', decide_eq_false_iff_not]; exact fun h => h c), w64 (by omega) (by omega)]
      refine .inr ⟨(), rfl, fun i hi => ?_⟩
      by_cases hij : i = j
      · rw [hij]; exact c
      · exact hI i (by omega)) (by
    intro k _ hI
    show ∃ r, L_ref16_block_7 n (k + 1) _ = some r ∧ _
    rw [L_ref16_block_7_eq, brk_ite, if_neg (by simp)]
    exact ⟨_, rfl, .inr ⟨rfl, hI⟩⟩) n () (by omega) (fun j hj => by omega)
  rw [h1]
  simp only [Option.bind_some]
  rcases h2 with ⟨x, rfl⟩ | ⟨rfl, h2⟩
  · exact ⟨162, rfl, fun h => by cases h⟩
  · refine ⟨0, rfl, fun _ => ?_⟩
    rw [hll] at h2
    rw [hl] at h2
    exact ⟨by omega, by omega, by omega, by omega, by omega, by omega, by omega, by omega, by omega, h2 0 (by omega), h2 1 (by omega), h2 2 (by omega), h2 3 (by omega), h2 4 (by omega), h2 5 (by omega), h2 6 (by omega), h2 7 (by omega)⟩

/-- a model whose parts are right, and its numbers -/
structure MOk (m : Mod) (D H half C Hd V L : Nat) : Prop where
  dims : Dims D H half C Hd
  v : m.1.1 = (V : Int)
  c : m.1.2.1 = (C : Int)
  d : m.1.2.2.1 = (D : Int)
  h : m.1.2.2.2.1 = (H : Int)
  l : m.1.2.2.2.2.1 = (L : Int)
  hd : m.1.2.2.2.2.2 = (Hd : Int)
  v2 : 2 ≤ V ∧ V ≤ 512
  l8 : 1 ≤ L ∧ L ≤ 8
  e : m.2.2.1.length = V * D
  es : 0 ≤ m.2.2.2.1 ∧ m.2.2.2.1 ≤ 24
  cos : m.2.2.2.2.1.length = C * half
  sin : m.2.2.2.2.2.1.length = C * half
  bs : m.2.2.2.2.2.2.1.length = L
  b : ∀ b ∈ m.2.2.2.2.2.2.1, BlkOk D Hd b
  be : m.2.2.2.2.2.2.2.1.length = 256
  g : m.2.2.2.2.2.2.2.2.1.length = D
  u : m.2.2.2.2.2.2.2.2.2.1.length = V * D
  ls : 0 ≤ m.2.2.2.2.2.2.2.2.2.2 ∧ m.2.2.2.2.2.2.2.2.2.2 ≤ 31

theorem dims_of {s : Shp} (h : ShpOk s) : ∃ D H half C Hd V L : Nat, Dims D H half C Hd ∧ s.1 = (V : Int) ∧ s.2.1 = (C : Int) ∧ s.2.2.1 = (D : Int) ∧ s.2.2.2.1 = (H : Int) ∧ s.2.2.2.2.1 = (L : Int) ∧ s.2.2.2.2.2 = (Hd : Int) ∧ (2 ≤ V ∧ V ≤ 512) ∧ (1 ≤ L ∧ L ≤ 8) ∧ s.2.2.1 / s.2.2.2.1 / 2 = (half : Int) := by
  obtain ⟨c1, c2, c3, c4, c5, c6, c7, c8⟩ := h
  obtain ⟨D, hD⟩ : ∃ D : Nat, s.2.2.1 = (D : Int) := ⟨s.2.2.1.toNat, by omega⟩
  obtain ⟨H, hH⟩ : ∃ H : Nat, s.2.2.2.1 = (H : Int) := ⟨s.2.2.2.1.toNat, by omega⟩
  obtain ⟨C, hC⟩ : ∃ C : Nat, s.2.1 = (C : Int) := ⟨s.2.1.toNat, by omega⟩
  obtain ⟨V, hV⟩ : ∃ V : Nat, s.1 = (V : Int) := ⟨s.1.toNat, by omega⟩
  obtain ⟨L, hL⟩ : ∃ L : Nat, s.2.2.2.2.1 = (L : Int) := ⟨s.2.2.2.2.1.toNat, by omega⟩
  obtain ⟨Hd, hHd⟩ : ∃ Hd : Nat, s.2.2.2.2.2 = (Hd : Int) := ⟨s.2.2.2.2.2.toNat, by omega⟩
  rw [hD, hH] at c7 c8
  have d7 : D % H = 0 := by omega
  have d8 : D / H % 2 = 0 := by omega
  have hDH : D = H * (D / H) := (Nat.mul_div_cancel' (Nat.dvd_of_mod_eq_zero d7)).symm
  have hpos : D / H ≠ 0 := by
    intro h0
    rw [h0] at hDH
    omega
  have h2 : D / H = 2 * (D / H / 2) := by omega
  refine ⟨D, H, D / H / 2, C, Hd, V, L, ⟨by rw [← h2]; exact hDH, by omega, by omega, by omega, by omega, by omega, by omega, by omega⟩, hV, hC, hD, hH, hL, hHd, by omega, by omega, ?_⟩
  rw [hD, hH]
  simp

theorem ref16_parts {n : Nat} {m : Mod} (hm : LenM m) (hn : 2000000000 ≤ n) : ∃ r, F_ref16_parts n m = some r ∧ (r.2.2 = 0 → ∃ D H half C Hd V L, MOk m D H half C Hd V L) := by
  obtain ⟨⟨s1, s2, s3, s4, s5, s6⟩, ⟨t, ms⟩, e, es, c, si, bs, be, g, u, ls⟩ := m
  have hbs : bs.length ≤ 1048576 := hm.bs
  obtain ⟨vr, hvr⟩ := ref13_Check (n := n) (v := (t, ms)) hm.t hm.ms hm.tt hn
  rw [F_ref16_parts_eq, ref16_Check]
  simp only [Option.bind_some, brk_ite, bne_iff_ne, ne_eq]
  by_cases hS : ShpOk (s1, s2, s3, s4, s5, s6)
  case neg =>
    rw [chk_no hS, if_pos (by decide)]
    exact ⟨_, rfl, fun h => by cases h⟩
  rw [chk_yes hS, if_neg (by simp), hvr]
  simp only [Option.bind_some]
  by_cases c1 : ¬ vr.2 = 0
  · rw [if_pos c1]; exact ⟨_, rfl, fun h => absurd h c1⟩
  rw [if_neg c1]
  have hhalf := ref16_Half (n := n) hS
  obtain ⟨D, H, half, C, Hd, V, L, hdim, hV, hC, hD, hH, hL, hHd, hV2, hL8, hhf⟩ := dims_of hS
  rw [hhf] at hhalf
  simp only at hV hC hD hH hL hHd
  subst hV hC hD hH hL hHd
  have g1 := hdim.dm
  have g2 := hdim.hm
  have g3 := hdim.cm
  have g4 := hdim.hle
  have m1 : V * D ≤ 512 * 64 := Nat.mul_le_mul hV2.2 g1
  have m2 : C * half ≤ 512 * 64 := Nat.mul_le_mul g3 (by omega)
  have e1 : IntKind.wrap .i64 ((V : Int) * (D : Int)) = ((V * D : Nat) : Int) := by rw [show (V : Int) * (D : Int) = ((V * D : Nat) : Int) by simp]; exact w64 (by omega) (by omega)
  have e2 : IntKind.wrap .i64 ((C : Int) * (half : Int)) = ((C * half : Nat) : Int) := by rw [show (C : Int) * (half : Int) = ((C * half : Nat) : Int) by simp]; exact w64 (by omega) (by omega)
  by_cases c2 : ¬ ((t.length : Nat) : Int) = (V : Int)
  · rw [if_pos c2]; exact ⟨_, rfl, fun h => by cases h⟩
  rw [if_neg c2, e1]
  by_cases c3 : ¬ ((e.length : Nat) : Int) = ((V * D : Nat) : Int)
  · rw [if_pos c3]; exact ⟨_, rfl, fun h => by cases h⟩
  rw [if_neg c3, ref16_within]
  simp only [Option.bind_some]
  by_cases c4 : ¬ (0 ≤ es ∧ es ≤ 24)
  · rw [if_pos (by simp only [Bool.not_eq_true', decide_eq_false_iff_not]; exact c4)]; exact ⟨_, rfl, fun h => by cases h⟩
  have c4 := Decidable.not_not.1 c4
  rw [if_neg (by simp only [Bool.not_eq_true', decide_eq_false_iff_not]; exact fun h => h c4)]
  obtain ⟨q, h1, h2⟩ := loop_inv (L := fun k j (_ : Unit) => L_ref16_parts_15 n k ((), (), [c, si], (([c, si].length : Nat) : Int), j, ((V : Int), (C : Int), (D : Int), (H : Int), (L : Int), (Hd : Int), t, ms, e, es, c, si, bs, be, g, u, ls, ()), ((V : Int), (C : Int), (D : Int), (H : Int), (L : Int), (Hd : Int), ()), ())) (len := 2)
    (fun i _ => ∀ j, j < i → (([c, si] : List (List Int)).getD j []).length = C * half)
    (fun q => (∃ x y z, q = .inl (x, y, 161, z)) ∨ (q = .inr ((), (), ((V : Int), (C : Int), (D : Int), (H : Int), (L : Int), (Hd : Int), t, ms, e, es, c, si, bs, be, g, u, ls, ()), ((V : Int), (C : Int), (D : Int), (H : Int), (L : Int), (Hd : Int), ()), ()) ∧ ∀ j, j < 2 → (([c, si] : List (List Int)).getD j []).length = C * half)) (by
    intro k j _ hj hI
    show (∃ r, L_ref16_parts_15 n (k + 1) _ = some r ∧ _) ∨ ∃ s', L_ref16_parts_15 n (k + 1) _ = _ ∧ _
    rw [L_ref16_parts_15_eq, brk_ite, if_pos (by rw [decide_eq_true_eq]; simp only [List.length_cons, List.length_nil]; omega), idx_getD (show j < ([c, si] : List (List Int)).length from hj) []]
    simp only [Option.bind_some, brk_ite, bne_iff_ne, ne_eq]
    rw [hhalf]
    simp only [Option.bind_some]
    rw [e2]
    by_cases d1 : ¬ (((([c, si] : List (List Int)).getD j []).length : Nat) : Int) = ((C * half : Nat) : Int)
    · rw [if_pos d1]; exact .inl ⟨_, rfl, .inl ⟨_, _, _, rfl⟩⟩
    · rw [if_neg d1, w64 (by omega) (by omega)]
      refine .inr ⟨(), rfl, fun i hi => ?_⟩
      by_cases hij : i = j
      · rw [hij]; omega
      · exact hI i (by omega)) (by
    intro k _ hI
    show ∃ r, L_ref16_parts_15 n (k + 1) _ = some r ∧ _
    rw [L_ref16_parts_15_eq, brk_ite, if_neg (by simp)]
    exact ⟨_, rfl, .inr ⟨rfl, hI⟩⟩) n () (by omega) (fun j hj => by omega)
  rw [h1]
  simp only [Option.bind_some]
  rcases h2 with ⟨x, y, z, rfl⟩ | ⟨rfl, h2⟩
  · exact ⟨_, rfl, fun h => by cases h⟩
  simp only [sumk]
  obtain ⟨q, h3, h4⟩ := loop_inv (L := fun k j (_ : Unit) => L_ref16_parts_21 n k ((), (), bs, ((bs.length : Nat) : Int), j, ((V : Int), (C : Int), (D : Int), (H : Int), (L : Int), (Hd : Int), t, ms, e, es, c, si, bs, be, g, u, ls, ()), ((V : Int), (C : Int), (D : Int), (H : Int), (L : Int), (Hd : Int), ()), ())) (len := bs.length)
    (fun i _ => i ≤ L ∧ ∀ j (hj : j < bs.length), j < i → BlkOk D Hd bs[j])
    (fun q => (∃ x y z w, q = .inl (x, y, z, w) ∧ z ≠ 0) ∨ (q = .inr ((), (), ((V : Int), (C : Int), (D : Int), (H : Int), (L : Int), (Hd : Int), t, ms, e, es, c, si, bs, be, g, u, ls, ()), ((V : Int), (C : Int), (D : Int), (H : Int), (L : Int), (Hd : Int), ()), ()) ∧ bs.length ≤ L ∧ ∀ j (hj : j < bs.length), BlkOk D Hd bs[j])) (by
    intro k j _ hj hI
    show (∃ r, L_ref16_parts_21 n (k + 1) _ = some r ∧ _) ∨ ∃ s', L_ref16_parts_21 n (k + 1) _ = _ ∧ _
    obtain ⟨r, hr, hr2⟩ := ref16_block (n := n) (s := ((V : Int), (C : Int), (D : Int), (H : Int), (L : Int), (Hd : Int))) (b := bs[j]) (D := D) (Hd := Hd) rfl rfl g1 g2 hn
    rw [L_ref16_parts_21_eq, brk_ite, if_pos (by rw [decide_eq_true_eq]; omega), idx_some hj]
    simp only [Option.bind_some, brk_ite, bne_iff_ne, ne_eq, decide_eq_true_eq]
    by_cases d1 : (j : Int) ≥ (L : Int)
    · rw [if_pos d1]; exact .inl ⟨_, rfl, .inl ⟨_, _, _, _, rfl, by decide⟩⟩
    rw [if_neg d1, hr]
    simp only [Option.bind_some]
    by_cases d2 : ¬ r = 0
    · rw [if_pos d2]; exact .inl ⟨_, rfl, .inl ⟨_, _, _, _, rfl, d2⟩⟩
    · rw [if_neg d2, w64 (by omega) (by omega)]
      refine .inr ⟨(), rfl, by omega, fun i hi hij => ?_⟩
      by_cases hij2 : i = j
      · subst hij2; exact hr2 (Decidable.not_not.1 d2)
      · exact hI.2 i hi (by omega)) (by
    intro k _ hI
    show ∃ r, L_ref16_parts_21 n (k + 1) _ = some r ∧ _
    rw [L_ref16_parts_21_eq, brk_ite, if_neg (by simp)]
    exact ⟨_, rfl, .inr ⟨rfl, hI.1, fun j hj => hI.2 j hj hj⟩⟩) n () (by omega) ⟨by omega, fun j hj h => by omega⟩
  rw [h3]
  simp only [Option.bind_some]
  rcases h4 with ⟨x, y, z, w, rfl, hz⟩ | ⟨rfl, h4, h5⟩
  · exact ⟨_, rfl, fun h => absurd h hz⟩
  simp only [sumk, decide_eq_true_eq]
  by_cases c5 : ((bs.length : Nat) : Int) < (L : Int)
  · rw [if_pos c5]; exact ⟨_, rfl, fun h => by cases h⟩
  rw [if_neg c5]
  by_cases c6 : ¬ ((be.length : Nat) : Int) = 256
  · rw [if_pos c6]; exact ⟨_, rfl, fun h => by cases h⟩
  rw [if_neg c6]
  by_cases c7 : ¬ ((g.length : Nat) : Int) = (D : Int)
  · rw [if_pos c7]; exact ⟨_, rfl, fun h => by cases h⟩
  rw [if_neg c7, e1]
  by_cases c8 : ¬ ((u.length : Nat) : Int) = ((V * D : Nat) : Int)
  · rw [if_pos c8]; exact ⟨_, rfl, fun h => by cases h⟩
  rw [if_neg c8, ref16_within]
  simp only [Option.bind_some]
  by_cases c9 : ¬ (0 ≤ ls ∧ ls ≤ 31)
  · rw [if_pos (by simp only [Bool.not_eq_true', decide_eq_false_iff_not]; exact c9)]; exact ⟨_, rfl, fun h => by cases h⟩
  have c9 := Decidable.not_not.1 c9
  rw [if_neg (by simp only [Bool.not_eq_true', decide_eq_false_iff_not]; exact fun h => h c9)]
  refine ⟨_, rfl, fun _ => ⟨D, H, half, C, Hd, V, L, hdim, rfl, rfl, rfl, rfl, rfl, rfl, hV2, hL8, by show e.length = _; omega, c4, h2 0 (by omega), h2 1 (by omega), by show bs.length = _; omega, ?_, by show be.length = _; omega, by show g.length = _; omega, by show u.length = _; omega, c9⟩⟩
  intro b hb
  obtain ⟨j, hj, rfl⟩ := List.getElem_of_mem hb
  exact h5 j hj

end Go.Am.Pu
