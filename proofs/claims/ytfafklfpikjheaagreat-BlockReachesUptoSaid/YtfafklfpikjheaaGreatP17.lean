import Derived.Test.YtfafklfpikjheaaGreatP16
set_option linter.unusedVariables false
set_option linter.unusedSimpArgs false
/- Plain laws: BlockReaches. -/
namespace Go.Am.Pu
open Go Go.Am

abbrev TShp : Ty := .pair TN (.pair TN (.pair TN (.pair TN (.pair TN TN))))
abbrev TVoc : Ty := .pair (.sl .str) (.sl (.pair TN (.pair TN TN)))
abbrev TMod : Ty := .pair TShp (.pair TVoc (.pair TL8 (.pair TN (.pair TL8 (.pair TL8 (.pair (.sl TBlo) (.pair TL8 (.pair TL8 (.pair TL8 TN)))))))))

theorem part_mod {a b c d e f g h i j k l : Nat} (hh : a + ((b + c) + (d + (e + (f + (g + (h + (i + (j + (k + l)))))))))  ≤ 1048576) : b ≤ 1048576 ∧ c ≤ 1048576 ∧ d ≤ 1048576 ∧ f ≤ 1048576 ∧ g ≤ 1048576 ∧ h ≤ 1048576 ∧ i ≤ 1048576 ∧ j ≤ 1048576 ∧ k ≤ 1048576 := by omega
theorem len8' {l : List Int} (h : bulkT TL8 l ≤ 1048576) : l.length ≤ 1048576 := by
  have := bulk8 l
  omega
theorem blk_M {m : Mod} (h : bulkT TMod m ≤ 1048576) : LenM m := by
  obtain ⟨h1, h2, h3, h4, h5, h6, h7, h8, h9⟩ := part_mod (a := bulkT TShp m.1) (b := bulkT (.sl .str) m.2.1.1) (c := bulkT (.sl (.pair TN (.pair TN TN))) m.2.1.2) (d := bulkT TL8 m.2.2.1) (e := bulkT TN m.2.2.2.1) (f := bulkT TL8 m.2.2.2.2.1) (g := bulkT TL8 m.2.2.2.2.2.1) (h := bulkT (.sl TBlo) m.2.2.2.2.2.2.1) (i := bulkT TL8 m.2.2.2.2.2.2.2.1) (j := bulkT TL8 m.2.2.2.2.2.2.2.2.1) (k := bulkT TL8 m.2.2.2.2.2.2.2.2.2.1) (l := bulkT TN m.2.2.2.2.2.2.2.2.2.2) h
  have p1 : m.2.1.1.length + 1 ≤ bulkT (.sl .str) m.2.1.1 := bulk_lens (e := .str) (fun x => Nat.le_add_left 1 _) m.2.1.1
  have p2 : m.2.1.2.length + 1 ≤ bulkT (.sl (.pair TN (.pair TN TN))) m.2.1.2 := bulk_lens (e := .pair TN (.pair TN TN)) (fun x => Nat.le_add_right 1 _) m.2.1.2
  have p3 : m.2.2.2.2.2.2.1.length + 1 ≤ bulkT (.sl TBlo) m.2.2.2.2.2.2.1 := bulk_lens (e := TBlo) (fun x => Nat.le_trans (Nat.le_trans (Nat.le_add_left 1 _) (bulk8 x.1)) (Nat.le_add_right _ _)) m.2.2.2.2.2.2.1
  refine ⟨by omega, fun x hx => ?_, by omega, len8' h3, len8' h4, len8' h5, by omega, fun b hb => ?_, len8' h7, len8' h8, len8' h9⟩
  · have : x.length + 1 ≤ bulkT (.sl .str) m.2.1.1 := bulk_mem (e := .str) (l := m.2.1.1) (x := x) hx
    omega
  · have : bulkT TBlo b ≤ bulkT (.sl TBlo) m.2.2.2.2.2.2.1 := bulk_mem (e := TBlo) (l := m.2.2.2.2.2.2.1) (x := b) hb
    exact blk_B (Nat.le_trans this h6)

/-- what typed data say of a model -/
structure OkM (m : Mod) : Prop where
  len : LenM m
  e : all8 m.2.2.1
  cos : all8 m.2.2.2.2.1
  sin : all8 m.2.2.2.2.2.1
  b : ∀ b ∈ m.2.2.2.2.2.2.1, OkB b
  be : all8 m.2.2.2.2.2.2.2.1
  g : all8 m.2.2.2.2.2.2.2.2.1
  u : all8 m.2.2.2.2.2.2.2.2.2.1
theorem wf_M {m : Mod} (h : wfT TMod m) (hb : bulkT TMod m ≤ 1048576) : OkM m :=
  ⟨blk_M hb, wf_8 h.2.2.1, wf_8 h.2.2.2.2.1, wf_8 h.2.2.2.2.2.1, fun b hbm => wf_B (h.2.2.2.2.2.2.1 b hbm), wf_8 h.2.2.2.2.2.2.2.1, wf_8 h.2.2.2.2.2.2.2.2.1, wf_8 h.2.2.2.2.2.2.2.2.2.1⟩

/-- a row of the embedding, wide -/
def wideI (e : List Int) (D p E : Nat) : List Int := tab (fun i => (rowN e D p).getD i 0 * 2 ^ E) D

theorem reach_rng {f x : Int} {E : Nat} (h1 : -f ≤ x) (h2 : x ≤ f) : -(f * 2 ^ E) ≤ x * 2 ^ E ∧ x * 2 ^ E ≤ f * 2 ^ E := by
  have hp : (0 : Int) ≤ 2 ^ E := Int.le_of_lt (Int.pow_pos (by decide))
  have a := Int.mul_le_mul_of_nonneg_right h1 hp
  have b := Int.mul_le_mul_of_nonneg_right h2 hp
  rw [Int.neg_mul] at a
  exact ⟨a, b⟩

theorem wide_loop {n : Nat} {reach : List Int} {xs : List (List Int)} {l : List Int} {len at_ : Int} {V C D H L Hd E : Nat} {t : List (List UInt8)} {ms : List (Int × Int × Int)} {e c si : List Int} {bs : List Blo} {be g u : List Int} {ls : Int} {row : List Int} (h8 : all8 row) (hl : row.length ≤ 64) (hE : E ≤ 24) (hn : 2000000000 ≤ n) :
    L_law20_BlockReaches_16 n n ((), reach, xs, (D : Int), [], l, len, at_, row, ((row.length : Nat) : Int), 0, ((V : Int), (C : Int), (D : Int), (H : Int), (L : Int), (Hd : Int), t, ms, e, (E : Int), c, si, bs, be, g, u, ls, ()), ()) =
      some ((), reach, xs, (D : Int), tab (fun i => row.getD i 0 * 2 ^ E) row.length, l, len, at_, ((V : Int), (C : Int), (D : Int), (H : Int), (L : Int), (Hd : Int), t, ms, e, (E : Int), c, si, bs, be, g, u, ls, ()), ()) := by
  have hp2 : (2 : Int) ^ E ≤ 16777216 := by
    have : (2 : Nat) ^ E ≤ 2 ^ 24 := Nat.pow_le_pow_right (by omega) hE
    have h : ((2 ^ E : Nat) : Int) ≤ ((2 ^ 24 : Nat) : Int) := by exact_mod_cast this
    simpa using h
  have hp : (0 : Int) ≤ 2 ^ E := Int.le_of_lt (Int.pow_pos (by decide))
  refine loop_st (L := fun k j s => L_law20_BlockReaches_16 n k ((), reach, xs, (D : Int), s, l, len, at_, row, ((row.length : Nat) : Int), j, ((V : Int), (C : Int), (D : Int), (H : Int), (L : Int), (Hd : Int), t, ms, e, (E : Int), c, si, bs, be, g, u, ls, ()), ())) (len := row.length) (r := ((), reach, xs, (D : Int), tab (fun i => row.getD i 0 * 2 ^ E) row.length, l, len, at_, ((V : Int), (C : Int), (D : Int), (H : Int), (L : Int), (Hd : Int), t, ms, e, (E : Int), c, si, bs, be, g, u, ls, ()), ())) (fun i => tab (fun i => row.getD i 0 * 2 ^ E) i) ?_ ?_ n (by omega)
  · intro k i hi
    have hx : -128 ≤ row.getD i 0 ∧ row.getD i 0 ≤ 127 := h8.at i
    have hr := reach_rng (f := 128) (x := row.getD i 0) (E := E) (by omega) (by omega)
    show L_law20_BlockReaches_16 n (k + 1) _ = _
    rw [L_law20_BlockReaches_16_eq, brk_ite, if_pos (by rw [decide_eq_true_eq]; omega), idx_getD hi 0]
    simp only [Option.bind_some]
    have hsh : shlo .i64 (IntKind.wrap .i64 (row.getD i 0)) (IntKind.wrap .u64 (E : Int)) = some (row.getD i 0 * 2 ^ E) := by
      rw [w64 (x := row.getD i 0) (by omega) (by omega), wu64]
      unfold shlo
      rw [if_neg (by omega), show min ((E : Int) % 18446744073709551616).toNat (IntKind.bits .i64) = E by show min _ 64 = E; omega, w64 (by omega) (by omega)]
    rw [hsh]
    simp only [Option.bind_some]
    rw [app_tab _ (by unfold room; omega) (by unfold room; omega)]
    simp only [Option.bind_some]
    rw [w64 (by omega) (by omega)]
  · intro k
    show L_law20_BlockReaches_16 n (k + 1) _ = _
    rw [L_law20_BlockReaches_16_eq, brk_ite, if_neg (by simp)]

/-- rows of one width, within a reach -/
def InR (D : Nat) (R : Int) (xs : List (List Int)) : Prop := ∀ x ∈ xs, x.length = D ∧ ∀ y ∈ x, -R ≤ y ∧ y ≤ R

theorem rows_loop {n : Nat} {reach tk : List Int} {V C D H L Hd E : Nat} {t : List (List UInt8)} {ms : List (Int × Int × Int)} {e c si : List Int} {bs : List Blo} {be g u : List Int} {ls f : Int} (hV : 2 ≤ V ∧ V ≤ 512) (hD : 2 ≤ D ∧ D ≤ 64) (hC : C ≤ 512) (hel : e.length = V * D) (he8 : all8 e) (hf : ∀ x ∈ e, -f ≤ x ∧ x ≤ f) (hf0 : 0 ≤ f) (hE : E ≤ 24) (htk : tk.length ≤ 1000000000) (hn : 2000000000 ≤ n) :
    ∃ q, L_law20_BlockReaches_10 n n ((), reach, [], (D : Int), tk, ((tk.length : Nat) : Int), 0, ((V : Int), (C : Int), (D : Int), (H : Int), (L : Int), (Hd : Int), t, ms, e, (E : Int), c, si, bs, be, g, u, ls, ()), ()) = some q ∧ ∃ xs, q = ((), reach, xs, (D : Int), ((V : Int), (C : Int), (D : Int), (H : Int), (L : Int), (Hd : Int), t, ms, e, (E : Int), c, si, bs, be, g, u, ls, ()), ()) ∧ xs.length ≤ C ∧ InR D (f * 2 ^ E) xs := by
  have hVD : V * D ≤ 512 * 64 := Nat.mul_le_mul hV.2 hD.2
  refine loop_inv (L := fun k j xs => L_law20_BlockReaches_10 n k ((), reach, xs, (D : Int), tk, ((tk.length : Nat) : Int), j, ((V : Int), (C : Int), (D : Int), (H : Int), (L : Int), (Hd : Int), t, ms, e, (E : Int), c, si, bs, be, g, u, ls, ()), ())) (len := tk.length)
    (fun i xs => xs.length ≤ C ∧ InR D (f * 2 ^ E) xs) (fun q => ∃ xs, q = ((), reach, xs, (D : Int), ((V : Int), (C : Int), (D : Int), (H : Int), (L : Int), (Hd : Int), t, ms, e, (E : Int), c, si, bs, be, g, u, ls, ()), ()) ∧ xs.length ≤ C ∧ InR D (f * 2 ^ E) xs) ?_ ?_ n [] (by omega) ⟨by simp, fun x hx => by cases hx⟩
  · intro k j xs hj ⟨h1, h2⟩
    show (∃ r, L_law20_BlockReaches_10 n (k + 1) _ = some r ∧ _) ∨ ∃ s', L_law20_BlockReaches_10 n (k + 1) _ = _ ∧ _
    rw [L_law20_BlockReaches_10_eq, brk_ite, if_pos (by rw [decide_eq_true_eq]; omega), idx_getD hj 0]
    simp only [Option.bind_some, brk_ite, beq_iff_eq]
    by_cases c1 : ((xs.length : Nat) : Int) = (C : Int)
    · rw [if_pos c1]
      exact .inl ⟨_, rfl, xs, rfl, h1, h2⟩
    rw [if_neg c1]
    right
    obtain ⟨tv, htv⟩ : ∃ tv, tv = (tk.getD j 0).tmod (V : Int) := ⟨_, rfl⟩
    have b1 : tv < (V : Int) := by rw [htv]; exact Int.tmod_lt_of_pos _ (by omega)
    have b2 : -(V : Int) < tv := by
      have := Int.tmod_lt_of_pos (-(tk.getD j 0)) (show 0 < (V : Int) by omega)
      rw [Int.neg_tmod] at this
      omega
    rw [rm_some (by omega), ← htv]
    simp only [Option.bind_some]
    rw [w64 (x := tv + (V : Int)) (by omega) (by omega), rm_nn (by omega) (by omega)]
    simp only [Option.bind_some]
    obtain ⟨p, hp⟩ : ∃ p : Nat, (tv + (V : Int)) % (V : Int) = (p : Int) := ⟨((tv + (V : Int)) % (V : Int)).toNat, by have := Int.emod_nonneg (tv + (V : Int)) (show (V : Int) ≠ 0 by omega); omega⟩
    have hpV : p < V := by
      have := Int.emod_lt_of_pos (tv + (V : Int)) (show 0 < (V : Int) by omega)
      omega
    have hm : e.length % D = 0 := by rw [hel]; exact Nat.mul_mod_left _ _
    have hd : e.length / D = V := by rw [hel]; exact Nat.mul_div_cancel _ (by omega)
    have hlen := len_div hm (show p < e.length / D by rw [hd]; exact hpV)
    have hrl := rowN_len hm (show p < e.length / D by rw [hd]; exact hpV)
    rw [hp, show (p : Int) * (D : Int) = ((p * D : Nat) : Int) by simp, w64 (x := ((p * D : Nat) : Int)) (by omega) (by omega), w64 (x := ((p * D : Nat) : Int) + (D : Int)) (by omega) (by omega), slc_row hm (by rw [hd]; exact hpV)]
    simp only [Option.bind_some]
    have h8r : all8 (rowN e D p) := he8.sub _ _
    rw [wide_loop h8r (by omega) hE hn]
    simp only [Option.bind_some]
    have hap : app 24 xs [tab (fun i => (rowN e D p).getD i 0 * 2 ^ E) (rowN e D p).length] = some (xs ++ [tab (fun i => (rowN e D p).getD i 0 * 2 ^ E) (rowN e D p).length]) := by
      unfold app
      rw [if_pos (by unfold room; simp; omega)]
    rw [hap]
    simp only [Option.bind_some]
    rw [w64 (by omega) (by omega)]
    refine ⟨_, rfl, by simp; omega, ?_⟩
    intro x hx
    rcases List.mem_append.1 hx with hx | hx
    · exact h2 x hx
    · rw [List.mem_singleton.1 hx]
      refine ⟨by simp [hrl], ?_⟩
      intro y hy
      obtain ⟨i, hi, rfl⟩ := tab_mem hy
      rw [getD_lt hi]
      have hmem : (rowN e D p)[i] ∈ e := List.mem_of_mem_drop (List.mem_of_mem_take (List.getElem_mem hi))
      have := hf _ hmem
      exact reach_rng this.1 this.2
  · intro k xs ⟨h1, h2⟩
    show ∃ q, L_law20_BlockReaches_10 n (k + 1) _ = some q ∧ _
    rw [L_law20_BlockReaches_10_eq, brk_ite, if_neg (by simp)]
    exact ⟨_, rfl, xs, rfl, h1, h2⟩

theorem ys_loop {n : Nat} {reach : List Int} {D H i : Nat} {ys : List (List Int)} {ps : Pairs} {bs : List Blo} {len : Int} {c si be : List Int} {R : Int} (hD : D ≤ 64) (hi : i ≤ 8) (hrl : 2 * i + 2 < reach.length) (hR : reach.getD (2 * i + 2) 0 = R) (hR0 : 0 ≤ R) (hR2 : R ≤ 268435456) (hy : InR D R ys) (hyl : ys.length ≤ 512) (hn : 2000000000 ≤ n) :
    L_law20_BlockReaches_30 n n (reach, (D : Int), (), (i : Int), ys, ps, bs, len, (i : Int), ys, ((ys.length : Nat) : Int), 0, ((H : Int), c, si, be, ()), ()) = some (Sum.inr (reach, (D : Int), (), ys, ps, bs, len, (i : Int), ((H : Int), c, si, be, ()), ())) := by
  refine loop_st (L := fun k j (_ : Unit) => L_law20_BlockReaches_30 n k (reach, (D : Int), (), (i : Int), ys, ps, bs, len, (i : Int), ys, ((ys.length : Nat) : Int), j, ((H : Int), c, si, be, ()), ())) (len := ys.length) (r := Sum.inr (reach, (D : Int), (), ys, ps, bs, len, (i : Int), ((H : Int), c, si, be, ()), ())) (fun _ => ()) ?_ ?_ n (by omega)
  · intro k j hj
    obtain ⟨y1, y2⟩ := hy _ (List.getElem_mem hj)
    obtain ⟨y, hyy⟩ : ∃ y, y = ys[j] := ⟨_, rfl⟩
    show L_law20_BlockReaches_30 n (k + 1) _ = _
    rw [L_law20_BlockReaches_30_eq, brk_ite, if_pos (by rw [decide_eq_true_eq]; omega), idx_some hj]
    rw [← hyy] at y1 y2 ⊢
    simp only [Option.bind_some, brk_ite, bne_iff_ne, ne_eq]
    rw [if_neg (by omega)]
    have hI := loop_st (L := fun k z (_ : Unit) => L_law20_BlockReaches_35 n k (reach, (D : Int), (), (i : Int), ys, ps, bs, len, (i : Int), ys, ((ys.length : Nat) : Int), (j : Int), y, ((y.length : Nat) : Int), z, ((H : Int), c, si, be, ()), ())) (len := y.length) (r := Sum.inr (reach, (D : Int), (), (i : Int), ys, ps, bs, len, (i : Int), ys, ((ys.length : Nat) : Int), (j : Int), ((H : Int), c, si, be, ()), ())) (fun _ => ()) ?_ ?_ n (by omega)
    · rw [hI]
      simp only [Option.bind_some, sumk]
      rw [w64 (by omega) (by omega)]
    · intro k z hz
      have hv := y2 _ (List.getElem_mem hz)
      show L_law20_BlockReaches_35 n (k + 1) _ = _
      rw [L_law20_BlockReaches_35_eq, brk_ite, if_pos (by rw [decide_eq_true_eq]; omega), idx_some hz]
      simp only [Option.bind_some, brk_ite, decide_eq_true_eq]
      rw [w64 (x := 2 * (i : Int)) (by omega) (by omega), w64 (x := 2 * (i : Int) + 2) (by omega) (by omega), show 2 * (i : Int) + 2 = ((2 * i + 2 : Nat) : Int) by omega, idx_getD hrl 0, hR]
      simp only [Option.bind_some]
      rw [w64 (x := 0 - R) (by omega) (by omega), if_neg (by omega), if_neg (by omega), w64 (by omega) (by omega)]
    · intro k
      show L_law20_BlockReaches_35 n (k + 1) _ = _
      rw [L_law20_BlockReaches_35_eq, brk_ite, if_neg (by simp)]
  · intro k
    show L_law20_BlockReaches_30 n (k + 1) _ = _
    rw [L_law20_BlockReaches_30_eq, brk_ite, if_neg (by simp)]

theorem ps_loop {n : Nat} {reach : List Int} {D H i : Nat} {ys : List (List Int)} {ps : Pairs} {bs : List Blo} {len : Int} {c si be : List Int} (hD : D ≤ 64) (hp : ∀ p ∈ ps, p.1.length = D ∧ p.2.length = D ∧ all7 p.1 ∧ all7 p.2) (hpl : ps.length ≤ 512) (hn : 2000000000 ≤ n) :
    L_law20_BlockReaches_42 n n (reach, (D : Int), (), ys, bs, len, (i : Int), ps, ((ps.length : Nat) : Int), 0, ((H : Int), c, si, be, ()), ()) = some (Sum.inr (reach, (D : Int), (), ys, bs, len, (i : Int), ((H : Int), c, si, be, ()), ())) := by
  refine loop_st (L := fun k j (_ : Unit) => L_law20_BlockReaches_42 n k (reach, (D : Int), (), ys, bs, len, (i : Int), ps, ((ps.length : Nat) : Int), j, ((H : Int), c, si, be, ()), ())) (len := ps.length) (r := Sum.inr (reach, (D : Int), (), ys, bs, len, (i : Int), ((H : Int), c, si, be, ()), ())) (fun _ => ()) ?_ ?_ n (by omega)
  · intro k j hj
    obtain ⟨y1, y2, y3, y4⟩ := hp _ (List.getElem_mem hj)
    obtain ⟨p, hpp⟩ : ∃ p, p = ps[j] := ⟨_, rfl⟩
    show L_law20_BlockReaches_42 n (k + 1) _ = _
    rw [L_law20_BlockReaches_42_eq, brk_ite, if_pos (by rw [decide_eq_true_eq]; omega), idx_some hj]
    rw [← hpp] at y1 y2 y3 y4 ⊢
    simp only [Option.bind_some, brk_ite, bne_iff_ne, ne_eq]
    rw [if_neg (by omega), if_neg (by omega)]
    have hI := loop_st (L := fun k z (_ : Unit) => L_law20_BlockReaches_47 n k (reach, (D : Int), (), ys, (p.1, p.2, ()), bs, len, (i : Int), ps, ((ps.length : Nat) : Int), (j : Int), ((p.1.length : Nat) : Int), z, ((H : Int), c, si, be, ()), ())) (len := p.1.length) (r := Sum.inr (reach, (D : Int), (), ys, bs, len, (i : Int), ps, ((ps.length : Nat) : Int), (j : Int), ((H : Int), c, si, be, ()), ())) (fun _ => ()) ?_ ?_ n (by omega)
    · rw [hI]
      simp only [Option.bind_some, sumk]
      rw [w64 (by omega) (by omega)]
    · intro k z hz
      have hv := y3.at z
      have hw := y4.at z
      show L_law20_BlockReaches_47 n (k + 1) _ = _
      rw [L_law20_BlockReaches_47_eq, brk_ite, if_pos (by rw [decide_eq_true_eq]; omega), idx_getD hz 0, idx_getD (show z < p.2.length by omega) 0]
      simp only [Option.bind_some, brk_ite, beq_iff_eq]
      rw [if_neg (by omega), if_neg (by omega), w64 (by omega) (by omega)]
    · intro k
      show L_law20_BlockReaches_47 n (k + 1) _ = _
      rw [L_law20_BlockReaches_47_eq, brk_ite, if_neg (by simp)]
  · intro k
    show L_law20_BlockReaches_42 n (k + 1) _ = _
    rw [L_law20_BlockReaches_42_eq, brk_ite, if_neg (by simp)]

theorem blocks_loop {n : Nat} {reach : List Int} {D H half C Hd L : Nat} {bs : List Blo} {c si be : List Int} {f0 : Int} {xs : List (List Int)} (hd : Dims D H half C Hd) (hb : ∀ b ∈ bs, BlkOk D Hd b) (hb8 : ∀ b ∈ bs, OkB b) (hF : FrmOk H half C ((H : Int), c, si, be)) (hF8 : OkF ((H : Int), c, si, be)) (hr : Rch D Hd bs f0 L reach) (hL : bs.length = L) (hL8 : L ≤ 8) (hrm : ∀ x ∈ reach, x ≤ 268435456) (hf0 : 0 ≤ f0)
    (hx : InR D f0 xs) (hxl : xs.length ≤ C) (hn : 2000000000 ≤ n) :
    ∃ q, L_law20_BlockReaches_24 n n (reach, xs, (D : Int), (), bs, ((bs.length : Nat) : Int), 0, ((H : Int), c, si, be, ()), ()) = some q ∧ q = Sum.inr () := by
  have hcm := hd.cm
  have hdm := hd.dm
  have hlen := hr.len
  have hnn : ∀ i, i ≤ L → 0 ≤ reach.getD (2 * i) 0 := by
    intro i
    induction i with
    | zero => intro _; rw [Nat.mul_zero, hr.f0]; exact hf0
    | succ i ih =>
      intro hi
      have h1 := ih (by omega)
      obtain ⟨a, d, h2, h3, h4⟩ := hr.st i (by omega) (by omega)
      have h5 := h2.a0
      have h6 := h2.c0
      rw [show 2 * (i + 1) = 2 * i + 2 by omega, h4, h3]
      omega
  refine loop_inv (L := fun k j xs => L_law20_BlockReaches_24 n k (reach, xs, (D : Int), (), bs, ((bs.length : Nat) : Int), j, ((H : Int), c, si, be, ()), ())) (len := bs.length) (fun i xs => xs.length ≤ C ∧ InR D (reach.getD (2 * i) 0) xs) (fun q => q = Sum.inr ()) ?_ ?_ n xs (by omega) ⟨hxl, by rw [Nat.mul_zero, hr.f0]; exact hx⟩
  · intro k i xs hi ⟨h1, h2⟩
    right
    obtain ⟨a, d, g1, g2, g3⟩ := hr.st i hi (by omega)
    have a0 := g1.a0
    have d0 := g1.c0
    have hR := hnn i (by omega)
    have hmx : reach.getD (2 * i + 2) 0 ≤ 268435456 := by
      rw [getD_lt (show 2 * i + 2 < reach.length by omega)]
      exact hrm _ (List.getElem_mem _)
    have hRac : reach.getD (2 * i) 0 + a + d = reach.getD (2 * i + 2) 0 := by omega
    have hbm := List.getElem_mem hi
    obtain ⟨r, p1, p2, p3⟩ := pass_ok hd (hb _ hbm) hF hR a0 d0 (by omega) g1.o g1.d xs [] [] h2 (by simp; omega) (fun p hp => by cases hp) (fun p hp => by cases hp)
    rw [hRac] at p3
    obtain ⟨l1, l2, -⟩ := passGo_len p1
    simp only [List.length_nil, Nat.zero_add] at l1 l2
    have hI : passI bs[i] ((H : Int), c, si, be) xs [] = (r.2, r.1, 0) := by unfold passI; rw [p1]; rfl
    have hx64 : ∀ x ∈ xs, all64 x ∧ x.length ≤ 1000000000 := by
      intro x hx
      obtain ⟨u1, u2⟩ := h2 x hx
      refine ⟨fun y hy => ?_, by omega⟩
      have := u2 y hy
      omega
    show ∃ s', L_law20_BlockReaches_24 n (k + 1) _ = _ ∧ _
    rw [L_law20_BlockReaches_24_eq, brk_ite, if_pos (by rw [decide_eq_true_eq]; omega), idx_some hi]
    simp only [Option.bind_some, brk_ite, bne_iff_ne, ne_eq]
    rw [block_Pass (hb8 _ hbm) hF8 hx64 (fun p hp => by cases hp) (by simp; omega) hn, hI]
    simp only [Option.bind_some]
    rw [if_neg (by simp), if_neg (by omega), if_neg (by omega), ys_loop hdm (by omega) (by omega) rfl (by omega) hmx p3 (by omega) hn]
    simp only [Option.bind_some, sumk]
    rw [ps_loop hdm p2 (by omega) hn]
    simp only [Option.bind_some]
    rw [w64 (by omega) (by omega)]
    refine ⟨_, rfl, by omega, ?_⟩
    rw [show 2 * (i + 1) = 2 * i + 2 by omega]
    exact p3
  · intro k xs _
    show ∃ q, L_law20_BlockReaches_24 n (k + 1) _ = some q ∧ _
    rw [L_law20_BlockReaches_24_eq, brk_ite, if_neg (by simp)]
    exact ⟨_, rfl, rfl⟩

theorem reaches_of {n : Nat} (hn : 2000000000 ≤ n) (ha : F_law20_awake n () = some true) {m : Mod} {tk : List Int} (hm : OkM m) (htk : tk.length ≤ 1000000000) : F_law20_BlockReaches n (m, tk) = some true := by
  obtain ⟨r, hr, hr2⟩ := ref16_Valid hm.len hm.e hm.b hn
  rw [F_law20_BlockReaches_eq, ha]
  simp only [Option.bind_some, brk_ite, Bool.not_true, Bool.false_eq_true, if_false, bne_iff_ne, ne_eq]
  rw [show ((m.1, (m.2.1, m.2.2)) : Mod) = m from rfl, ref16_Of hm.len hn]
  simp only [Option.bind_some]
  rw [show ((m.1, (m.2.1, m.2.2)) : Mod) = m from rfl, hr]
  simp only [Option.bind_some]
  by_cases c : ¬ r.2.2 = 0
  · rw [if_pos c]
  have c := Decidable.not_not.1 c
  rw [if_neg (by rw [c]; simp)]
  obtain ⟨D, H, half, C, Hd, V, L, f, l, ho, q1, q2, q3, q4, q5⟩ := hr2 c
  rw [q1]
  simp only [Option.bind_some]
  clear hr hr2 q1
  have hlen := hm.len
  have he8 := hm.e
  have hc8 := hm.cos
  have hs8 := hm.sin
  have hb8 := hm.b
  have hbe8 := hm.be
  obtain ⟨⟨s1, s2, s3, s4, s5, s6⟩, ⟨t, ms⟩, e, es, c, si, bs, be, g, u, ls⟩ := m
  have v1 : s1 = (V : Int) := ho.v
  have v2 : s2 = (C : Int) := ho.c
  have v3 : s3 = (D : Int) := ho.d
  have v4 : s4 = (H : Int) := ho.h
  have v5 : s5 = (L : Int) := ho.l
  have v6 : s6 = (Hd : Int) := ho.hd
  have hes : 0 ≤ es ∧ es ≤ 24 := ho.es
  obtain ⟨E, hE⟩ : ∃ E : Nat, es = (E : Int) := ⟨es.toNat, by omega⟩
  subst v1 v2 v3 v4 v5 v6 hE
  have hdm := ho.dims.dm
  have hcm := ho.dims.cm
  have hpos := ho.dims.pos
  have hp : (0 : Int) ≤ 2 ^ E := Int.le_of_lt (Int.pow_pos (by decide))
  simp only [Int.toNat_natCast] at q4
  obtain ⟨q, w1, xs, rfl, w2, w3⟩ := rows_loop (n := n) (reach := l) (tk := tk) (V := V) (C := C) (D := D) (H := H) (L := L) (Hd := Hd) (E := E) (t := t) (ms := ms) (e := e) (c := c) (si := si) (bs := bs) (be := be) (g := g) (u := u) (ls := ls) ho.v2 ⟨hpos, hdm⟩ hcm ho.e he8 q2 q3 (by omega) htk hn
  simp only
  rw [w1]
  simp only [Option.bind_some]
  have hcl : c.length ≤ 1048576 := hlen.c
  have hsl : si.length ≤ 1048576 := hlen.si
  obtain ⟨q, z1, rfl⟩ := blocks_loop (n := n) (reach := l) (c := c) (si := si) (be := be) ho.dims ho.b hb8 (f0 := f * 2 ^ E) ⟨rfl, ho.cos, ho.sin, ho.be⟩ ⟨hc8, hs8, hbe8, by show c.length ≤ _; omega, by show si.length ≤ _; omega⟩ q4 ho.bs ho.l8.2 q5 (Int.mul_nonneg q3 hp) w3 w2 hn
  rw [z1]
  rfl

theorem blockReaches_plain (x : (Ty.pair TMod TL64).den) (h : wfT (.pair TMod TL64) x) (hb : bulkT (.pair TMod TL64) x ≤ 1048576) : ∃ n, F_law20_BlockReaches n x = some true := by
  have hb : bulkT TMod x.1 + bulkT TL64 x.2 ≤ 1048576 := hb
  have h1 := bulk64 x.2
  exact ⟨2000000000, reaches_of (Nat.le_refl _) law20_awake (m := x.1) (tk := x.2) (wf_M h.1 (by omega)) (by omega)⟩

end Go.Am.Pu
