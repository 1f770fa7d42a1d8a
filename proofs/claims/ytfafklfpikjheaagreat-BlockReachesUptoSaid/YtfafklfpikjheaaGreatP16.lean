import Derived.Test.YtfafklfpikjheaaGreatP15
set_option linter.unusedVariables false
set_option linter.unusedSimpArgs false
/- Plain laws: the reaches of a valid model (layer 16). -/
namespace Go.Am.Pu
open Go Go.Am

/-- what a block adds at most -/
structure Adds (D Hd : Nat) (b : Blo) (a c : Int) : Prop where
  a0 : 0 ≤ a
  a1 : a ≤ 4194304
  c0 : 0 ≤ c
  c1 : c ≤ 4194304
  o : ∀ j, j < D → (roundI (127 * sizeI (rowN b.2.2.2.2.1 D j)) b.2.2.2.2.2.2.2.2.2.1).1 ≤ a
  d : ∀ j, j < D → (roundI (127 * sizeI (rowN b.2.2.2.2.2.2.2.2.2.2.2.2.2.1 Hd j)) b.2.2.2.2.2.2.2.2.2.2.2.2.2.2.2.2).1 ≤ c
/-- the reaches up to block i -/
structure Rch (D Hd : Nat) (bs : List Blo) (f : Int) (i : Nat) (l : List Int) : Prop where
  len : l.length = 2 * i + 1
  f0 : l.getD 0 0 = f
  top : 0 ≤ l.getD (2 * i) 0 ∧ l.getD (2 * i) 0 ≤ 2147483648 + (i : Int) * 8388608
  st : ∀ j (hj : j < bs.length), j < i → ∃ a c, Adds D Hd bs[j] a c ∧ l.getD (2 * j + 1) 0 = l.getD (2 * j) 0 + a ∧ l.getD (2 * j + 2) 0 = l.getD (2 * j + 1) 0 + c

theorem getD_app {l m : List Int} {i : Nat} (h : i < l.length) : (l ++ m).getD i 0 = l.getD i 0 := by
  rw [List.getD_eq_getElem?_getD, List.getD_eq_getElem?_getD, List.getElem?_append_left h]
theorem getD_app2 {l : List Int} {x y : Int} : (l ++ [x, y]).getD l.length 0 = x ∧ (l ++ [x, y]).getD (l.length + 1) 0 = y := by
  rw [List.getD_eq_getElem?_getD, List.getD_eq_getElem?_getD, List.getElem?_append_right (by omega), List.getElem?_append_right (by omega)]
  simp

theorem Rch.step {D Hd : Nat} {bs : List Blo} {f : Int} {i : Nat} {l : List Int} (h : Rch D Hd bs f i l) (hi : i < bs.length) {a c : Int} (ha : Adds D Hd bs[i] a c) : Rch D Hd bs f (i + 1) (l ++ [l.getD (2 * i) 0 + a, l.getD (2 * i) 0 + a + c]) := by
  have hl := h.len
  obtain ⟨g1, g2⟩ := getD_app2 (l := l) (x := l.getD (2 * i) 0 + a) (y := l.getD (2 * i) 0 + a + c)
  rw [hl] at g1 g2
  have h1 := ha.a0
  have h2 := ha.a1
  have h3 := ha.c0
  have h4 := ha.c1
  have h5 := h.top
  refine ⟨by simp; omega, by rw [getD_app (by omega)]; exact h.f0, ?_, ?_⟩
  · rw [show 2 * (i + 1) = 2 * i + 1 + 1 by omega, g2]
    omega
  · intro j hj hji
    by_cases hij : j = i
    · subst hij
      refine ⟨a, c, ha, ?_, ?_⟩
      · rw [g1, getD_app (by omega)]
      · rw [show 2 * j + 2 = 2 * j + 1 + 1 by omega, g2, g1]
    · obtain ⟨a', c', k1, k2, k3⟩ := h.st j hj (by omega)
      refine ⟨a', c', k1, ?_, ?_⟩
      · rw [getD_app (by omega), getD_app (by omega)]; exact k2
      · rw [getD_app (by omega), getD_app (by omega)]; exact k3

theorem pow_step (i : Nat) : (2 : Int) ^ (i + 1) = 2 ^ i * 2 := Int.pow_succ 2 i

theorem ref16_reaches {n : Nat} {m : Mod} {D H half C Hd V L : Nat} (hm : LenM m) (ho : MOk m D H half C Hd V L) (he8 : all8 m.2.2.1) (hb8 : ∀ b ∈ m.2.2.2.2.2.2.1, OkB b) (hn : 2000000000 ≤ n) :
    ∃ f l, F_ref16_reaches n m = some l ∧ (∀ x ∈ m.2.2.1, -f ≤ x ∧ x ≤ f) ∧ 0 ≤ f ∧ Rch D Hd m.2.2.2.2.2.2.1 (f * 2 ^ m.2.2.2.1.toNat) L l := by
  obtain ⟨⟨s1, s2, s3, s4, s5, s6⟩, ⟨t, ms⟩, e, es, c, si, bs, be, g, u, ls⟩ := m
  have hel : e.length ≤ 1048576 := hm.e
  have hbl : bs.length = L := ho.bs
  have hes : 0 ≤ es ∧ es ≤ 24 := ho.es
  have hl8 := ho.l8
  have hD : s3 = (D : Int) := ho.d
  have hHd : s6 = (Hd : Int) := ho.hd
  have he8 : all8 e := he8
  have hb8 : ∀ b ∈ bs, OkB b := hb8
  have hbo : ∀ b ∈ bs, BlkOk D Hd b := ho.b
  have g1 := ho.dims.dm
  have g2 := ho.dims.hm
  have g3 := ho.dims.pos
  have g4 := ho.dims.hd
  have g5 := ho.dims.dd
  have g6 := ho.dims.hdd
  rw [Nat.mul_comm] at g6
  subst hD hHd
  rw [F_ref16_reaches_eq]
  simp only
  obtain ⟨q, h1, f, rfl, h2, h3, h4⟩ := loop_inv (L := fun k j a => L_ref16_reaches_3 n k ((), a, e, ((e.length : Nat) : Int), j, (s1, s2, (D : Int), s4, s5, (Hd : Int), t, ms, e, es, c, si, bs, be, g, u, ls, ()), ())) (len := e.length)
    (fun i a => 0 ≤ a ∧ a ≤ 128 ∧ ∀ j, j < i → absI (e.getD j 0) ≤ a) (fun q => ∃ f, q = ((), f, (s1, s2, (D : Int), s4, s5, (Hd : Int), t, ms, e, es, c, si, bs, be, g, u, ls, ()), ()) ∧ 0 ≤ f ∧ f ≤ 128 ∧ ∀ j, j < e.length → absI (e.getD j 0) ≤ f) (by
    intro k j a hj ⟨a1, a2, a3⟩
    right
    have hx : -128 ≤ e.getD j 0 ∧ e.getD j 0 ≤ 127 := he8.at j
    show ∃ s', L_ref16_reaches_3 n (k + 1) _ = _ ∧ _
    rw [L_ref16_reaches_3_eq, brk_ite, if_pos (by rw [decide_eq_true_eq]; omega), idx_getD hj 0]
    simp only [Option.bind_some, brk_ite, decide_eq_true_eq]
    rw [w64 (x := e.getD j 0) (by omega) (by omega)]
    have hab : absI (e.getD j 0) ≤ 128 := by unfold absI; split <;> omega
    have key : ∀ y, y = absI (e.getD j 0) → ∃ s', (if y > a then 0 ≤ s' ∧ s' = y else s' = a) ∧ 0 ≤ s' ∧ s' ≤ 128 ∧ ∀ i, i < j + 1 → absI (e.getD i 0) ≤ s' := by
      intro y hy
      have h0 := (absI_rng (e.getD j 0)).1
      by_cases hya : y > a
      · refine ⟨y, by rw [if_pos hya]; omega, by omega, by omega, fun i hi => ?_⟩
        by_cases hij : i = j
        · rw [hij]; omega
        · have := a3 i (by omega); omega
      · refine ⟨a, by rw [if_neg hya], by omega, by omega, fun i hi => ?_⟩
        by_cases hij : i = j
        · rw [hij]; omega
        · exact a3 i (by omega)
    by_cases hneg : e.getD j 0 < 0
    · rw [if_pos hneg]
      simp only [Option.bind_some]
      rw [w64 (x := 0 - e.getD j 0) (by omega) (by omega)]
      obtain ⟨s', k1, k2⟩ := key (0 - e.getD j 0) (by unfold absI; rw [if_pos hneg]; omega)
      by_cases hya : 0 - e.getD j 0 > a
      · rw [if_pos hya] at k1 ⊢
        simp only [Option.bind_some]
        rw [w64 (by omega) (by omega)]
        exact ⟨s', by rw [k1.2], k2⟩
      · rw [if_neg hya] at k1 ⊢
        simp only [Option.bind_some]
        rw [w64 (by omega) (by omega)]
        exact ⟨s', by rw [k1], k2⟩
    · rw [if_neg hneg]
      simp only [Option.bind_some]
      obtain ⟨s', k1, k2⟩ := key (e.getD j 0) (by unfold absI; rw [if_neg hneg])
      by_cases hya : e.getD j 0 > a
      · rw [if_pos hya] at k1 ⊢
        simp only [Option.bind_some]
        rw [w64 (by omega) (by omega)]
        exact ⟨s', by rw [k1.2], k2⟩
      · rw [if_neg hya] at k1 ⊢
        simp only [Option.bind_some]
        rw [w64 (by omega) (by omega)]
        exact ⟨s', by rw [k1], k2⟩) (by
    intro k a ha
    show ∃ q, L_ref16_reaches_3 n (k + 1) _ = some q ∧ _
    rw [L_ref16_reaches_3_eq, brk_ite, if_neg (by simp)]
    exact ⟨_, rfl, a, rfl, ha⟩) n 0 (by omega) ⟨by omega, by omega, fun j hj => by omega⟩
  rw [h1]
  simp only [Option.bind_some]
  have pw : ∀ i : Nat, i ≤ 24 → 0 ≤ f * 2 ^ i ∧ f * 2 ^ i ≤ 2147483648 := by
    intro i hi
    have hp := pow_rng (s := i) (by omega)
    have hp2 : (2 : Int) ^ i ≤ 16777216 := by
      have : (2 : Nat) ^ i ≤ 2 ^ 24 := Nat.pow_le_pow_right (by omega) hi
      have h : ((2 ^ i : Nat) : Int) ≤ ((2 ^ 24 : Nat) : Int) := by exact_mod_cast this
      simpa using h
    have h5 := Int.mul_nonneg h2 (show (0 : Int) ≤ 2 ^ i by omega)
    have h6 := Int.mul_le_mul h3 hp2 (by omega) (by omega)
    omega
  obtain ⟨E, hE⟩ : ∃ E : Nat, es = (E : Int) := ⟨es.toNat, by omega⟩
  subst hE
  have hL2 := loop_st (L := fun k j s => L_ref16_reaches_12 n k ((), s, j, (s1, s2, (D : Int), s4, s5, (Hd : Int), t, ms, e, (E : Int), c, si, bs, be, g, u, ls, ()), ())) (len := E) (r := ((), f * 2 ^ E, (s1, s2, (D : Int), s4, s5, (Hd : Int), t, ms, e, (E : Int), c, si, bs, be, g, u, ls, ()), ())) (fun i => f * 2 ^ i) (by
    intro k i hi
    have := pw i (by omega)
    show L_ref16_reaches_12 n (k + 1) _ = _
    rw [L_ref16_reaches_12_eq, brk_ite, if_pos (by rw [decide_eq_true_eq]; omega), w64 (by omega) (by omega), w64 (by omega) (by omega), pow_step, Int.mul_assoc]) (by
    intro k
    show L_ref16_reaches_12 n (k + 1) _ = _
    rw [L_ref16_reaches_12_eq, brk_ite, if_neg (by simp)]) n (by omega)
  rw [Int.pow_zero, Int.mul_one] at hL2
  rw [hL2]
  simp only [Option.bind_some, Int.toNat_natCast]
  have hpE := pw E (by omega)
  obtain ⟨q, h5, h6⟩ := loop_inv (L := fun k j l => L_ref16_reaches_17 n k ((), l, bs, ((bs.length : Nat) : Int), j, (s1, s2, (D : Int), s4, s5, (Hd : Int), t, ms, e, (E : Int), c, si, bs, be, g, u, ls, ()), ())) (len := bs.length)
    (fun i l => Rch D Hd bs (f * 2 ^ E) i l) (fun q => Rch D Hd bs (f * 2 ^ E) bs.length q.1) (by
    intro k j l hj hI
    right
    have hll := hI.len
    have htop := hI.top
    have hbm := List.getElem_mem hj
    have hb := hbo _ hbm
    have h8 := hb8 _ hbm
    obtain ⟨a, a1, a2, a3, a4⟩ := ref16_most (n := n) (w := bs[j].2.2.2.2.1) (r := D) (c := D) (s := bs[j].2.2.2.2.2.2.2.2.2.1) hb.o (by omega) (by omega) (by omega) h8.o hb.os.1 hb.os.2 hn
    obtain ⟨d, d1, d2, d3, d4⟩ := ref16_most (n := n) (w := bs[j].2.2.2.2.2.2.2.2.2.2.2.2.2.1) (r := D) (c := Hd) (s := bs[j].2.2.2.2.2.2.2.2.2.2.2.2.2.2.2.2) hb.m3 (by omega) (by omega) (by omega) h8.m3 hb.ds.1 hb.ds.2 hn
    show ∃ s', L_ref16_reaches_17 n (k + 1) _ = _ ∧ _
    rw [L_ref16_reaches_17_eq, brk_ite, if_pos (by rw [decide_eq_true_eq]; omega), idx_some hj]
    simp only [Option.bind_some]
    rw [w64 (x := ((l.length : Nat) : Int) - 1) (by omega) (by omega), show ((l.length : Nat) : Int) - 1 = ((2 * j : Nat) : Int) by omega, idx_getD (show 2 * j < l.length by omega) 0]
    simp only [Option.bind_some]
    rw [a1]
    simp only [Option.bind_some]
    rw [d1]
    simp only [Option.bind_some]
    rw [w64 (x := l.getD (2 * j) 0 + a) (by omega) (by omega), w64 (x := l.getD (2 * j) 0 + a + d) (by omega) (by omega)]
    have hap : app 8 l [l.getD (2 * j) 0 + a, l.getD (2 * j) 0 + a + d] = some (l ++ [l.getD (2 * j) 0 + a, l.getD (2 * j) 0 + a + d]) := by
      unfold app
      rw [if_pos (by unfold room; simp; omega)]
    rw [hap]
    simp only [Option.bind_some]
    rw [w64 (by omega) (by omega)]
    exact ⟨_, rfl, hI.step hj ⟨a2, a3, d2, d3, a4, d4⟩⟩) (by
    intro k l hI
    show ∃ q, L_ref16_reaches_17 n (k + 1) _ = some q ∧ _
    rw [L_ref16_reaches_17_eq, brk_ite, if_neg (by simp)]
    exact ⟨_, rfl, hI⟩) n [f * 2 ^ E] (by omega) ⟨rfl, rfl, by show 0 ≤ f * 2 ^ E ∧ f * 2 ^ E ≤ _; omega, fun j hj h => by omega⟩
  rw [h5]
  simp only [Option.bind_some]
  refine ⟨f, q.1, rfl, ?_, h2, by rw [← hbl]; exact h6⟩
  intro x hx
  obtain ⟨j, hj, rfl⟩ := List.getElem_of_mem hx
  have h7 := h4 j hj
  rw [getD_lt hj] at h7
  have h8 := absI_rng e[j]
  omega

/-- valid: with reaches within bounds -/
theorem ref16_Valid {n : Nat} {m : Mod} (hm : LenM m) (he8 : all8 m.2.2.1) (hb8 : ∀ b ∈ m.2.2.2.2.2.2.1, OkB b) (hn : 2000000000 ≤ n) :
    ∃ r, F_ref16_Valid n m = some r ∧ (r.2.2 = 0 → ∃ D H half C Hd V L f l, MOk m D H half C Hd V L ∧ F_ref16_Reaches n m = some (l, 0) ∧ (∀ x ∈ m.2.2.1, -f ≤ x ∧ x ≤ f) ∧ 0 ≤ f ∧ Rch D Hd m.2.2.2.2.2.2.1 (f * 2 ^ m.2.2.2.1.toNat) L l ∧ ∀ x ∈ l, x ≤ 268435456) := by
  obtain ⟨p, p1, p2⟩ := ref16_parts hm hn
  rw [F_ref16_Valid_eq, F_ref16_Reaches_eq]
  rw [show ((m.1, (m.2.1, m.2.2)) : Mod) = m from rfl, p1]
  simp only [Option.bind_some, brk_ite, bne_iff_ne, ne_eq]
  by_cases c : ¬ p.2.2 = 0
  · rw [if_pos c]
    exact ⟨_, rfl, fun h => absurd h c⟩
  have c := Decidable.not_not.1 c
  obtain ⟨D, H, half, C, Hd, V, L, ho⟩ := p2 c
  obtain ⟨f, l, r1, r2, r3, r4⟩ := ref16_reaches hm ho he8 hb8 hn
  rw [if_neg (by rw [c]; simp), if_neg (by rw [c]; simp), r1]
  simp only [Option.bind_some]
  have hll : l.length ≤ 17 := by
    have := r4.len
    have := ho.l8
    omega
  obtain ⟨q, h1, h2⟩ := loop_inv (L := fun k j (_ : Unit) => L_ref16_Valid_5 n k (l, ((l.length : Nat) : Int), j, ())) (len := l.length)
    (fun i _ => ∀ j (hj : j < l.length), j < i → l[j] ≤ 268435456) (fun q => (∃ x y z, q = .inl (x, y, 163, z)) ∨ (q = .inr () ∧ ∀ j (hj : j < l.length), l[j] ≤ 268435456)) (by
    intro k j _ hj hI
    show (∃ r, L_ref16_Valid_5 n (k + 1) _ = some r ∧ _) ∨ ∃ s', L_ref16_Valid_5 n (k + 1) _ = _ ∧ _
    rw [L_ref16_Valid_5_eq, brk_ite, if_pos (by rw [decide_eq_true_eq]; omega), idx_some hj]
    simp only [Option.bind_some, brk_ite, decide_eq_true_eq]
    by_cases d : l[j] > 268435456
    · rw [if_pos d]; exact .inl ⟨_, rfl, .inl ⟨_, _, _, rfl⟩⟩
    · rw [if_neg d, w64 (by omega) (by omega)]
      refine .inr ⟨(), rfl, fun i hi hij => ?_⟩
      by_cases hij2 : i = j
      · subst hij2; omega
      · exact hI i hi (by omega)) (by
    intro k _ hI
    show ∃ r, L_ref16_Valid_5 n (k + 1) _ = some r ∧ _
    rw [L_ref16_Valid_5_eq, brk_ite, if_neg (by simp)]
    exact ⟨_, rfl, .inr ⟨rfl, fun j hj => hI j hj hj⟩⟩) n () (by omega) (fun j hj h => by omega)
  rw [h1]
  simp only [Option.bind_some]
  rcases h2 with ⟨x, y, z, rfl⟩ | ⟨rfl, h2⟩
  · exact ⟨_, rfl, fun h => by cases h⟩
  · refine ⟨_, rfl, fun _ => ⟨D, H, half, C, Hd, V, L, f, l, ho, rfl, r2, r3, r4, ?_⟩⟩
    intro x hx
    obtain ⟨j, hj, rfl⟩ := List.getElem_of_mem hx
    exact h2 j hj

end Go.Am.Pu
