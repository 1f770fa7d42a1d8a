import Derived.Test.YtfafklfpikjheaaGreatP13
set_option linter.unusedVariables false
set_option linter.unusedSimpArgs false
/- Plain laws: models (layer 16). -/
namespace Go.Am.Pu
open Go Go.Am

abbrev Shp := Int × Int × Int × Int × Int × Int
abbrev Voc := List (List UInt8) × List (Int × Int × Int)
abbrev Mod := Shp × Voc × List Int × Int × List Int × List Int × List Blo × List Int × List Int × List Int × Int

/-- a loop with ways out -/
theorem loop_inv {β R : Type} {L : Nat → Int → β → Option R} {len : Nat} (Inv : Nat → β → Prop) (Post : R → Prop)
    (hs : ∀ k i s, i < len → Inv i s → (∃ r, L (k + 1) (i : Int) s = some r ∧ Post r) ∨ ∃ s', L (k + 1) (i : Int) s = L k ((i : Int) + 1) s' ∧ Inv (i + 1) s')
    (he : ∀ k s, Inv len s → ∃ r, L (k + 1) (len : Int) s = some r ∧ Post r) :
    ∀ k s, len < k → Inv 0 s → ∃ r, L k 0 s = some r ∧ Post r := by
  have key : ∀ (m k i : Nat) (s : β), i + m = len → m < k → Inv i s → ∃ r, L k (i : Int) s = some r ∧ Post r := by
    intro m
    induction m with
    | zero =>
      intro k i s h1 h2 h3
      obtain ⟨k, rfl⟩ : ∃ j, k = j + 1 := ⟨k - 1, by omega⟩
      have : i = len := by omega
      subst this
      exact he k s h3
    | succ m ih =>
      intro k i s h1 h2 h3
      obtain ⟨k, rfl⟩ : ∃ j, k = j + 1 := ⟨k - 1, by omega⟩
      rcases hs k i s (by omega) h3 with h | ⟨s', h4, h5⟩
      · exact h
      · rw [h4]
        exact ih k (i + 1) s' (by omega) (by omega) h5
  exact fun k s hk h0 => key len k 0 s (by omega) hk h0

/-- lists of a model within bounds -/
structure LenM (m : Mod) : Prop where
  t : m.2.1.1.length ≤ 1048576
  tt : ∀ x ∈ m.2.1.1, x.length ≤ 1048576
  ms : m.2.1.2.length ≤ 1048576
  e : m.2.2.1.length ≤ 1048576
  c : m.2.2.2.2.1.length ≤ 1048576
  si : m.2.2.2.2.2.1.length ≤ 1048576
  bs : m.2.2.2.2.2.2.1.length ≤ 1048576
  b : ∀ b ∈ m.2.2.2.2.2.2.1, LenB b
  be : m.2.2.2.2.2.2.2.1.length ≤ 1048576
  g : m.2.2.2.2.2.2.2.2.1.length ≤ 1048576
  u : m.2.2.2.2.2.2.2.2.2.1.length ≤ 1048576

theorem app_all {α : Type} {l : List α} {b : Nat} (h : l.length ≤ 1000000000) (hb : b ≤ 1000) : app b [] l = some l := by
  unfold app
  rw [if_pos]
  · rfl
  · have : l.length * b ≤ 1000000000 * 1000 := Nat.mul_le_mul h hb
    unfold room; simp; omega


theorem ref16_Of {n : Nat} {m : Mod} (h : LenM m) (hn : 2000000000 ≤ n) : F_ref16_Of n m = some m := by
  obtain ⟨⟨s1, s2, s3, s4, s5, s6⟩, ⟨t, ms⟩, e, es, c, si, bs, be, g, u, ls⟩ := m
  have ht : t.length ≤ 1048576 := h.t
  have hms : ms.length ≤ 1048576 := h.ms
  have he : e.length ≤ 1048576 := h.e
  have hc : c.length ≤ 1048576 := h.c
  have hsi : si.length ≤ 1048576 := h.si
  have hbs : bs.length ≤ 1048576 := h.bs
  have hb : ∀ b ∈ bs, LenB b := h.b
  have hbe : be.length ≤ 1048576 := h.be
  have hg : g.length ≤ 1048576 := h.g
  have hu : u.length ≤ 1048576 := h.u
  have h1 := loop_st (L := fun k i s => L_ref16_Of_6 n k ((), (), (), ms, ((ms.length : Nat) : Int), i, (s1, s2, s3, s4, s5, s6, t, ms, e, es, c, si, bs, be, g, u, ls, ()), (0, 0, 0, 0, 0, 0, [], [], [], 0, [], [], [], [], [], [], 0, ()), (s1, s2, s3, s4, s5, s6, t, s, e, es, c, si, [], be, g, u, ls, ()), ())) (len := ms.length)
    (r := ((), (), (), (s1, s2, s3, s4, s5, s6, t, ms, e, es, c, si, bs, be, g, u, ls, ()), (0, 0, 0, 0, 0, 0, [], [], [], 0, [], [], [], [], [], [], 0, ()), (s1, s2, s3, s4, s5, s6, t, ms, e, es, c, si, [], be, g, u, ls, ()), ())) (fun i => ms.take i) (by
      intro k i hi
      show L_ref16_Of_6 n (k + 1) _ = _
      rw [L_ref16_Of_6_eq, brk_ite, if_pos (by rw [decide_eq_true_eq]; omega), idx_some hi]
      simp only [Option.bind_some]
      rw [app_take hi (by omega) (by omega), w64 (by omega) (by omega)]
      rfl) (by
      intro k
      show L_ref16_Of_6 n (k + 1) _ = _
      rw [L_ref16_Of_6_eq, brk_ite, if_neg (by rw [decide_eq_true_eq]; omega), List.take_length]) n (by omega)
  have h2 := loop_st (L := fun k i s => L_ref16_Of_11 n k ((), (), bs, ((bs.length : Nat) : Int), i, (0, 0, 0, 0, 0, 0, [], [], [], 0, [], [], [], [], [], [], 0, ()), (s1, s2, s3, s4, s5, s6, t, ms, e, es, c, si, s, be, g, u, ls, ()), ())) (len := bs.length)
    (r := ((), (), (0, 0, 0, 0, 0, 0, [], [], [], 0, [], [], [], [], [], [], 0, ()), (s1, s2, s3, s4, s5, s6, t, ms, e, es, c, si, bs, be, g, u, ls, ()), ())) (fun i => bs.take i) (by
      intro k i hi
      have hb := hb _ (List.getElem_mem hi)
      obtain ⟨B, hB⟩ : ∃ B, B = bs[i] := ⟨_, rfl⟩
      have ha := app_take (b := 280) hi (by omega) (by omega)
      show L_ref16_Of_11 n (k + 1) _ = _
      rw [L_ref16_Of_11_eq, brk_ite, if_pos (by rw [decide_eq_true_eq]; omega), idx_some hi]
      rw [← hB] at hb ha ⊢
      simp only [Option.bind_some]
      rw [ref16_own hb.g1, ref16_own hb.q, ref16_own hb.k, ref16_own hb.v, ref16_own hb.o, ref16_own hb.g2, ref16_own hb.m1, ref16_own hb.m2, ref16_own hb.m3]
      simp only [Option.bind_some]
      rw [ha, w64 (by omega) (by omega)]
      rfl) (by
      intro k
      show L_ref16_Of_11 n (k + 1) _ = _
      rw [L_ref16_Of_11_eq, brk_ite, if_neg (by rw [decide_eq_true_eq]; omega), List.take_length]) n (by omega)
  rw [List.take_zero] at h1 h2
  rw [F_ref16_Of_eq]
  simp only
  rw [ref16_own (by omega), ref16_own (by omega), ref16_own (by omega), ref16_own (by omega), ref16_own (by omega), ref16_own (by omega), app_all (by omega) (by omega)]
  simp only [Option.bind_some]
  rw [h1]
  simp only [Option.bind_some]
  rw [h2]
  rfl

theorem ref16_To {n : Nat} {m : Mod} (h : LenM m) (hn : 2000000000 ≤ n) : F_ref16_To n m = some m := by
  obtain ⟨⟨s1, s2, s3, s4, s5, s6⟩, ⟨t, ms⟩, e, es, c, si, bs, be, g, u, ls⟩ := m
  have ht : t.length ≤ 1048576 := h.t
  have hms : ms.length ≤ 1048576 := h.ms
  have he : e.length ≤ 1048576 := h.e
  have hc : c.length ≤ 1048576 := h.c
  have hsi : si.length ≤ 1048576 := h.si
  have hbs : bs.length ≤ 1048576 := h.bs
  have hb : ∀ b ∈ bs, LenB b := h.b
  have hbe : be.length ≤ 1048576 := h.be
  have hg : g.length ≤ 1048576 := h.g
  have hu : u.length ≤ 1048576 := h.u
  have h1 := loop_st (L := fun k i s => L_ref16_To_6 n k ((), (), (), ms, ((ms.length : Nat) : Int), i, (s1, s2, s3, s4, s5, s6, t, ms, e, es, c, si, bs, be, g, u, ls, ()), (0, 0, 0, 0, 0, 0, [], [], [], 0, [], [], [], [], [], [], 0, ()), (s1, s2, s3, s4, s5, s6, t, s, e, es, c, si, [], be, g, u, ls, ()), ())) (len := ms.length)
    (r := ((), (), (), (s1, s2, s3, s4, s5, s6, t, ms, e, es, c, si, bs, be, g, u, ls, ()), (0, 0, 0, 0, 0, 0, [], [], [], 0, [], [], [], [], [], [], 0, ()), (s1, s2, s3, s4, s5, s6, t, ms, e, es, c, si, [], be, g, u, ls, ()), ())) (fun i => ms.take i) (by
      intro k i hi
      show L_ref16_To_6 n (k + 1) _ = _
      rw [L_ref16_To_6_eq, brk_ite, if_pos (by rw [decide_eq_true_eq]; omega), idx_some hi]
      simp only [Option.bind_some]
      rw [app_take hi (by omega) (by omega), w64 (by omega) (by omega)]
      rfl) (by
      intro k
      show L_ref16_To_6 n (k + 1) _ = _
      rw [L_ref16_To_6_eq, brk_ite, if_neg (by rw [decide_eq_true_eq]; omega), List.take_length]) n (by omega)
  have h2 := loop_st (L := fun k i s => L_ref16_To_11 n k ((), (), bs, ((bs.length : Nat) : Int), i, (0, 0, 0, 0, 0, 0, [], [], [], 0, [], [], [], [], [], [], 0, ()), (s1, s2, s3, s4, s5, s6, t, ms, e, es, c, si, s, be, g, u, ls, ()), ())) (len := bs.length)
    (r := ((), (), (0, 0, 0, 0, 0, 0, [], [], [], 0, [], [], [], [], [], [], 0, ()), (s1, s2, s3, s4, s5, s6, t, ms, e, es, c, si, bs, be, g, u, ls, ()), ())) (fun i => bs.take i) (by
      intro k i hi
      have hb := hb _ (List.getElem_mem hi)
      obtain ⟨B, hB⟩ : ∃ B, B = bs[i] := ⟨_, rfl⟩
      have ha := app_take (b := 280) hi (by omega) (by omega)
      show L_ref16_To_11 n (k + 1) _ = _
      rw [L_ref16_To_11_eq, brk_ite, if_pos (by rw [decide_eq_true_eq]; omega), idx_some hi]
      rw [← hB] at hb ha ⊢
      simp only [Option.bind_some]
      rw [ref16_own hb.g1, ref16_own hb.q, ref16_own hb.k, ref16_own hb.v, ref16_own hb.o, ref16_own hb.g2, ref16_own hb.m1, ref16_own hb.m2, ref16_own hb.m3]
      simp only [Option.bind_some]
      rw [ha, w64 (by omega) (by omega)]
      rfl) (by
      intro k
      show L_ref16_To_11 n (k + 1) _ = _
      rw [L_ref16_To_11_eq, brk_ite, if_neg (by rw [decide_eq_true_eq]; omega), List.take_length]) n (by omega)
  rw [List.take_zero] at h1 h2
  rw [F_ref16_To_eq]
  simp only
  rw [ref16_own (by omega), ref16_own (by omega), ref16_own (by omega), ref16_own (by omega), ref16_own (by omega), ref16_own (by omega), app_all (by omega) (by omega)]
  simp only [Option.bind_some]
  rw [h1]
  simp only [Option.bind_some]
  rw [h2]
  rfl

/-! ### the vocabulary's check answers -/
theorem ref13_text {n : Nat} {v : Voc} {i : Nat} (hi : i < v.1.length) (hl : v.1.length ≤ 1048576) (hn : 2000000000 ≤ n) : ∃ r, F_ref13_text n (v, (i : Int)) = some r := by
  rw [F_ref13_text_eq, idx_some hi]
  simp only [Option.bind_some]
  obtain ⟨r, h1, -⟩ := loop_inv (L := fun k j (_ : Unit) => L_ref13_text_3 n k ((i : Int), (), v.1[i], j, (v.1, v.2, ()), ())) (len := i) (fun _ _ => True) (fun _ => True) (by
    intro k j _ hj _
    show (∃ r, L_ref13_text_3 n (k + 1) _ = some r ∧ _) ∨ ∃ s', L_ref13_text_3 n (k + 1) _ = _ ∧ _
    rw [L_ref13_text_3_eq, brk_ite, if_pos (by rw [decide_eq_true_eq]; omega), idx_some (show j < v.1.length by omega)]
    simp only [Option.bind_some, brk_ite]
    split
    · exact .inl ⟨_, rfl, trivial⟩
    · rw [w64 (by omega) (by omega)]
      exact .inr ⟨(), rfl, trivial⟩) (by
    intro k _ _
    show ∃ r, L_ref13_text_3 n (k + 1) _ = some r ∧ _
    rw [L_ref13_text_3_eq, brk_ite, if_neg (by rw [decide_eq_true_eq]; omega)]
    exact ⟨_, rfl, trivial⟩) n () (by omega) trivial
  rw [h1]
  simp only [Option.bind_some]
  match r with
  | .inl a => exact ⟨_, rfl⟩
  | .inr a =>
    simp only [sumk, brk_ite]
    split
    · exact ⟨_, rfl⟩
    · exact ⟨_, rfl⟩

theorem ref13_token {n : Nat} {v : Voc} {x : Int} : F_ref13_token n (v, x) = some (decide (0 < x ∧ x < (v.1.length : Int))) := by
  rw [F_ref13_token_eq]
  simp only [brk_ite, decide_eq_true_eq]
  split
  · rename_i h
    congr 1
    simp only [decide_eq_decide]
    omega
  · rename_i h
    congr 1
    symm
    rw [decide_eq_false_iff_not]
    omega

theorem ref13_merge {n : Nat} {v : Voc} {i : Nat} (hi : i < v.2.length) (hl : v.1.length ≤ 1048576) (hl2 : v.2.length ≤ 1048576) (ht : ∀ x ∈ v.1, x.length ≤ 1048576) (hn : 2000000000 ≤ n) : ∃ r, F_ref13_merge n (v, (i : Int)) = some r := by
  rw [F_ref13_merge_eq, idx_some hi]
  simp only [Option.bind_some]
  obtain ⟨x, hx⟩ : ∃ x, x = v.2[i] := ⟨_, rfl⟩
  rw [← hx, ref13_token]
  simp only [Option.bind_some, brk_ite]
  by_cases c1 : ¬ (0 < x.1 ∧ x.1 < (v.1.length : Int))
  · rw [if_pos (by simp [c1])]; exact ⟨_, rfl⟩
  have c1 := Decidable.not_not.1 c1
  rw [if_neg (by simp [c1]), ref13_token]
  simp only [Option.bind_some]
  by_cases c2 : ¬ (0 < x.2.1 ∧ x.2.1 < (v.1.length : Int))
  · rw [if_pos (by simp [c2])]; exact ⟨_, rfl⟩
  have c2 := Decidable.not_not.1 c2
  rw [if_neg (by simp [c2]), ref13_token]
  simp only [Option.bind_some]
  by_cases c3 : ¬ (0 < x.2.2 ∧ x.2.2 < (v.1.length : Int))
  · rw [if_pos (by simp [c3])]; exact ⟨_, rfl⟩
  have c3 := Decidable.not_not.1 c3
  rw [if_neg (by simp [c3])]
  obtain ⟨a, ha⟩ : ∃ a : Nat, x.1 = (a : Int) := ⟨x.1.toNat, by omega⟩
  obtain ⟨b, hb⟩ : ∃ b : Nat, x.2.1 = (b : Int) := ⟨x.2.1.toNat, by omega⟩
  obtain ⟨c, hc⟩ : ∃ c : Nat, x.2.2 = (c : Int) := ⟨x.2.2.toNat, by omega⟩
  have la : a < v.1.length := by omega
  have lb : b < v.1.length := by omega
  have lc : c < v.1.length := by omega
  have ta := ht _ (List.getElem_mem la)
  have tb := ht _ (List.getElem_mem lb)
  rw [ha, hb, hc, idx_some lc, idx_some la, idx_some lb]
  simp only [Option.bind_some]
  unfold cat
  rw [if_pos (by omega)]
  simp only [Option.bind_some]
  split
  · exact ⟨_, rfl⟩
  · obtain ⟨r, h1, -⟩ := loop_inv (L := fun k j (_ : Unit) => L_ref13_merge_5 n k ((i : Int), (), (), j, (v.1, v.2, ()), ((a : Int), (b : Int), (c : Int), ()), ())) (len := i) (fun _ _ => True) (fun _ => True) (by
      intro k j _ hj _
      show (∃ r, L_ref13_merge_5 n (k + 1) _ = some r ∧ _) ∨ ∃ s', L_ref13_merge_5 n (k + 1) _ = _ ∧ _
      rw [L_ref13_merge_5_eq, brk_ite, if_pos (by rw [decide_eq_true_eq]; omega), idx_some (show j < v.2.length by omega)]
      simp only [Option.bind_some, brk_ite]
      split
      · split
        · exact .inl ⟨_, rfl, trivial⟩
        · rw [w64 (by omega) (by omega)]
          exact .inr ⟨(), rfl, trivial⟩
      · rw [w64 (by omega) (by omega)]
        exact .inr ⟨(), rfl, trivial⟩) (by
      intro k _ _
      show ∃ r, L_ref13_merge_5 n (k + 1) _ = some r ∧ _
      rw [L_ref13_merge_5_eq, brk_ite, if_neg (by rw [decide_eq_true_eq]; omega)]
      exact ⟨_, rfl, trivial⟩) n () (by omega) trivial
    rw [h1]
    simp only [Option.bind_some]
    match r with
    | .inl a => exact ⟨_, rfl⟩
    | .inr a => exact ⟨_, rfl⟩

theorem ref13_Check {n : Nat} {v : Voc} (hl : v.1.length ≤ 1048576) (hl2 : v.2.length ≤ 1048576) (ht : ∀ x ∈ v.1, x.length ≤ 1048576) (hn : 2000000000 ≤ n) : ∃ r, F_ref13_Check n v = some r := by
  rw [F_ref13_Check_eq, brk_ite]
  split
  · exact ⟨_, rfl⟩
  obtain ⟨r, h1, h2⟩ := loop_inv (L := fun k j (_ : Unit) => L_ref13_Check_4 n k ((), j, (v.1, v.2, ()), ())) (len := v.1.length) (fun _ _ => True) (fun r => ∀ q, r = .inr q → q = ((), (v.1, v.2, ()), ())) (by
    intro k j _ hj _
    show (∃ r, L_ref13_Check_4 n (k + 1) _ = some r ∧ _) ∨ ∃ s', L_ref13_Check_4 n (k + 1) _ = _ ∧ _
    obtain ⟨r, hr⟩ := ref13_text (n := n) (v := v) hj hl hn
    rw [L_ref13_Check_4_eq, brk_ite, if_pos (by rw [decide_eq_true_eq]; omega)]
    rw [show ((v.1, v.2) : Voc) = v from rfl, hr]
    simp only [Option.bind_some, brk_ite]
    split
    · exact .inl ⟨_, rfl, fun q hq => by cases hq⟩
    · rw [w64 (by omega) (by omega)]
      exact .inr ⟨(), rfl, trivial⟩) (by
    intro k _ _
    show ∃ r, L_ref13_Check_4 n (k + 1) _ = some r ∧ _
    rw [L_ref13_Check_4_eq, brk_ite, if_neg (by rw [decide_eq_true_eq]; omega)]
    exact ⟨_, rfl, fun q hq => (Sum.inr.inj hq).symm⟩) n () (by omega) trivial
  rw [h1]
  simp only [Option.bind_some]
  match r, h2 with
  | .inl a, _ => exact ⟨_, rfl⟩
  | .inr a, h2 =>
    rw [h2 a rfl]
    simp only [sumk, brk_ite]
    split
    · exact ⟨_, rfl⟩
    · split
      · exact ⟨_, rfl⟩
      · obtain ⟨r, h3, -⟩ := loop_inv (L := fun k j (_ : Unit) => L_ref13_Check_13 n k ((), j, (v.1, v.2, ()), ())) (len := v.2.length) (fun _ _ => True) (fun _ => True) (by
          intro k j _ hj _
          show (∃ r, L_ref13_Check_13 n (k + 1) _ = some r ∧ _) ∨ ∃ s', L_ref13_Check_13 n (k + 1) _ = _ ∧ _
          obtain ⟨r, hr⟩ := ref13_merge (n := n) (v := v) hj hl hl2 ht hn
          rw [L_ref13_Check_13_eq, brk_ite, if_pos (by rw [decide_eq_true_eq]; omega)]
          rw [show ((v.1, v.2) : Voc) = v from rfl, hr]
          simp only [Option.bind_some, brk_ite]
          split
          · exact .inl ⟨_, rfl, trivial⟩
          · rw [w64 (by omega) (by omega)]
            exact .inr ⟨(), rfl, trivial⟩) (by
          intro k _ _
          show ∃ r, L_ref13_Check_13 n (k + 1) _ = some r ∧ _
          rw [L_ref13_Check_13_eq, brk_ite, if_neg (by rw [decide_eq_true_eq]; omega)]
          exact ⟨_, rfl, trivial⟩) n () (by omega) trivial
        rw [h3]
        simp only [Option.bind_some]
        match r with
        | .inl a => exact ⟨_, rfl⟩
        | .inr a => exact ⟨_, rfl⟩

/-! ### shapes -/
def ShpOk (s : Shp) : Prop := (2 ≤ s.1 ∧ s.1 ≤ 512) ∧ (1 ≤ s.2.1 ∧ s.2.1 ≤ 512) ∧ (2 ≤ s.2.2.1 ∧ s.2.2.1 ≤ 64) ∧ (1 ≤ s.2.2.2.2.1 ∧ s.2.2.2.2.1 ≤ 8) ∧ (1 ≤ s.2.2.2.2.2 ∧ s.2.2.2.2.2 ≤ 256) ∧ 1 ≤ s.2.2.2.1 ∧ s.2.2.1 % s.2.2.2.1 = 0 ∧ s.2.2.1 / s.2.2.2.1 % 2 = 0
instance (s : Shp) : Decidable (ShpOk s) := by unfold ShpOk; exact inferInstance
def chkI (s : Shp) : Int := if ShpOk s then 0 else 160
theorem chk_no {s : Shp} (h : ¬ ShpOk s) : chkI s = 160 := if_neg h
theorem chk_yes {s : Shp} (h : ShpOk s) : chkI s = 0 := if_pos h

theorem ref16_within {n : Nat} {x lo hi : Int} : F_ref16_within n (x, lo, hi) = some (decide (lo ≤ x ∧ x ≤ hi)) := by
  rw [F_ref16_within_eq]
  simp only [brk_ite, decide_eq_true_eq]
  split
  · rename_i h
    congr 1
    simp only [decide_eq_decide]
    omega
  · rename_i h
    congr 1
    symm
    rw [decide_eq_false_iff_not]
    omega

theorem ref16_Check {n : Nat} {s : Shp} : F_ref16_Check n s = some (chkI s) := by
  rw [F_ref16_Check_eq]
  rw [ref16_within]
  simp only [Option.bind_some, brk_ite]
  by_cases c1 : ¬ (2 ≤ s.1 ∧ s.1 ≤ 512)
  · rw [if_pos (by simp [c1]), chk_no (by unfold ShpOk; omega)]
  have c1 := Decidable.not_not.1 c1
  rw [if_neg (by simp [c1]), ref16_within]
  simp only [Option.bind_some]
  by_cases c2 : ¬ (1 ≤ s.2.1 ∧ s.2.1 ≤ 512)
  · rw [if_pos (by simp [c2]), chk_no (by unfold ShpOk; omega)]
  have c2 := Decidable.not_not.1 c2
  rw [if_neg (by simp [c2]), ref16_within]
  simp only [Option.bind_some]
  by_cases c3 : ¬ (2 ≤ s.2.2.1 ∧ s.2.2.1 ≤ 64)
  · rw [if_pos (by simp [c3]), chk_no (by unfold ShpOk; omega)]
  have c3 := Decidable.not_not.1 c3
  rw [if_neg (by simp [c3]), ref16_within]
  simp only [Option.bind_some]
  by_cases c4 : ¬ (1 ≤ s.2.2.2.2.1 ∧ s.2.2.2.2.1 ≤ 8)
  · rw [if_pos (by simp [c4]), chk_no (by unfold ShpOk; omega)]
  have c4 := Decidable.not_not.1 c4
  rw [if_neg (by simp [c4]), ref16_within]
  simp only [Option.bind_some]
  by_cases c5 : ¬ (1 ≤ s.2.2.2.2.2 ∧ s.2.2.2.2.2 ≤ 256)
  · rw [if_pos (by simp [c5]), chk_no (by unfold ShpOk; omega)]
  have c5 := Decidable.not_not.1 c5
  rw [if_neg (by simp [c5])]
  by_cases c6 : s.2.2.2.1 < 1
  · rw [if_pos (by simpa using c6), chk_no (by unfold ShpOk; omega)]
  rw [if_neg (by simpa using c6), rm_nn (by omega) (by omega)]
  simp only [Option.bind_some]
  by_cases c7 : ¬ (s.2.2.1 % s.2.2.2.1 = 0)
  · rw [if_pos (by simpa using c7), chk_no (by unfold ShpOk; omega)]
  have c7 := Decidable.not_not.1 c7
  have hq := (ediv_rng (x := s.2.2.1) (d := s.2.2.2.1) (by omega)).1 (by omega)
  rw [if_neg (by simpa using c7), qt_nn' (by omega) (by omega) (by omega)]
  simp only [Option.bind_some]
  rw [rm_nn (by omega) (by omega)]
  simp only [Option.bind_some]
  by_cases c8 : ¬ (s.2.2.1 / s.2.2.2.1 % 2 = 0)
  · rw [if_pos (by simpa using c8), chk_no (by unfold ShpOk; omega)]
  have c8 := Decidable.not_not.1 c8
  rw [if_neg (by simpa using c8), chk_yes ⟨c1, c2, c3, c4, c5, by omega, c7, c8⟩]

theorem ref16_Half {n : Nat} {s : Shp} (h : ShpOk s) : F_ref16_Half n s = some (s.2.2.1 / s.2.2.2.1 / 2) := by
  rw [F_ref16_Half_eq, ref16_Check]
  rw [chk_yes h]
  obtain ⟨c1, c2, c3, c4, c5, c6, c7, c8⟩ := h
  have hq := (ediv_rng (x := s.2.2.1) (d := s.2.2.2.1) (by omega)).1 (by omega)
  simp only [Option.bind_some, brk_ite]
  rw [if_neg (by simp), qt_nn' (by omega) (by omega) (by omega)]
  simp only [Option.bind_some]
  rw [qt_nn' (by omega) (by omega) (by omega)]
  rfl

end Go.Am.Pu
