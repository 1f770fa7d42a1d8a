import Derived.Test.YtfafklfpikjheaaGreatP11
set_option linter.unusedVariables false
set_option linter.unusedSimpArgs false
/- Plain laws: BlockPasses and BlockOnes. -/
namespace Go.Am.Pu
open Go Go.Am

theorem passes_of {n : Nat} (hn : 2000000000 ≤ n) (ha : F_law20_awake n () = some true) {g : Blo × Frm × Pairs} {xs : List (List Int)} (hg : OkG g) (hx : ∀ x ∈ xs, all64 x ∧ x.length ≤ 1000000000) (hxl : xs.length ≤ 1048576) : F_law20_BlockPasses n (g, xs) = some true := by
  obtain ⟨⟨o0, o1, o2, o3, o4, o5, o6, o7, o8, o9, o10, o11, o12, o13, o14, o15, o16⟩, ⟨f0, f1, f2, f3⟩, past⟩ := g
  have hl : past.length ≤ 1048576 := hg.l
  have hb : OkB (o0, o1, o2, o3, o4, o5, o6, o7, o8, o9, o10, o11, o12, o13, o14, o15, o16) := hg.b
  have hf : OkF (f0, f1, f2, f3) := hg.f
  have hp : ∀ p ∈ past, all8 p.1 ∧ all8 p.2 := hg.p
  have hlb : LenB (o0, o1, o2, o3, o4, o5, o6, o7, o8, o9, o10, o11, o12, o13, o14, o15, o16) := hg.lb
  have hlp : ∀ p ∈ past, p.1.length ≤ 1000000000 ∧ p.2.length ≤ 1000000000 := hg.lp
  rw [F_law20_BlockPasses_eq, ha]
  simp only [Option.bind_some, brk_ite, Bool.not_true, Bool.false_eq_true, if_false]
  rw [law20_plain hlb hn, law20_frame (f := (f0, f1, f2, f3)) hg.f1 hg.f2 hg.f3, law20_past hlp (by omega) hn]
  simp only [Option.bind_some]
  have hL := loop_st (L := fun k i s => L_law20_BlockPasses_6 n k (xs, (), (), (), past, s, xs, ((xs.length : Nat) : Int), i, (o0, o1, o2, o3, o4, o5, o6, o7, o8, o9, o10, o11, o12, o13, o14, o15, o16, f0, f1, f2, f3, past, ()), (o0, o1, o2, o3, o4, o5, o6, o7, o8, o9, o10, o11, o12, o13, o14, o15, o16, ()), (f0, f1, f2, f3, ()), ())) (len := xs.length) (r := (xs, (), (), (), past, xs, (o0, o1, o2, o3, o4, o5, o6, o7, o8, o9, o10, o11, o12, o13, o14, o15, o16, f0, f1, f2, f3, past, ()), (o0, o1, o2, o3, o4, o5, o6, o7, o8, o9, o10, o11, o12, o13, o14, o15, o16, ()), (f0, f1, f2, f3, ()), ())) (fun i => xs.take i) ?_ ?_ n (by omega)
  · rw [List.take_zero] at hL
    rw [hL]
    simp only [Option.bind_some]
    rw [block_Pass hb hf hx hp (by omega) hn, ref20_Pass hb hf hx hp (by omega) hn]
    simp only [Option.bind_some]
    obtain ⟨k1, k2, k3, k4⟩ := passI_bnd (b := (o0, o1, o2, o3, o4, o5, o6, o7, o8, o9, o10, o11, o12, o13, o14, o15, o16)) (f := (f0, f1, f2, f3)) (fun x h => (hx x h).2) hlp (by omega)
    rw [law20_rows_refl k1 k3 hn]
    simp only [Option.bind_some, if_true]
    rw [law20_same_refl k2 k4 hn]
    simp only [Option.bind_some, if_true, beq_self_eq_true]
    rw [law20_rows_refl (fun x h => (hx x h).2) (by omega) hn]
    simp only [Option.bind_some, if_true]
    rw [law20_Given_stays (f := (f0, f1, f2, f3)) hlb hg.f1 hg.f2 hg.f3 hlp (by omega) hn]
    rfl
  · intro k i hi
    show L_law20_BlockPasses_6 n (k + 1) _ = _
    rw [L_law20_BlockPasses_6_eq, brk_ite, if_pos (by rw [decide_eq_true_eq]; omega), idx_some hi]
    simp only [Option.bind_some]
    rw [app_own (hx _ (List.getElem_mem hi)).2 (by omega)]
    simp only [Option.bind_some]
    rw [app_take hi (by omega) (by omega), w64 (by omega) (by omega)]
    rfl
  · intro k
    show L_law20_BlockPasses_6 n (k + 1) _ = _
    rw [L_law20_BlockPasses_6_eq, brk_ite, if_neg (by rw [decide_eq_true_eq]; omega), List.take_length]

theorem blockPasses_plain (x : (Ty.pair TGiven (.sl TL64)).den) (h : wfT (.pair TGiven (.sl TL64)) x) (hb : bulkT (.pair TGiven (.sl TL64)) x ≤ 1048576) : ∃ n, F_law20_BlockPasses n x = some true := by
  have hb : bulkT TGiven x.1 + bulkT (.sl TL64) x.2 ≤ 1048576 := hb
  obtain ⟨h1, h2⟩ := wf_X (l := x.2) h.2 (by omega)
  exact ⟨2000000000, passes_of (Nat.le_refl _) law20_awake (g := x.1) (xs := x.2) (wf_G h.1 (by omega)) h1 h2⟩

/-! ### BlockOnes -/
theorem passGo_pre {b : Blo} {f : Frm} : ∀ {xs : List (List Int)} {all : Pairs} {out : List (List Int)} {r : Pairs × List (List Int)}, passGo b f xs all out = .inr r → out <+: r.2 := by
  intro xs
  induction xs with
  | nil =>
    intro all out r h
    simp only [passGo, Sum.inr.injEq] at h
    subst h
    exact List.prefix_rfl
  | cons x xs ih =>
    intro all out r h
    simp only [passGo] at h
    split at h
    · cases h
    · split at h
      · cases h
      · exact (List.prefix_append _ _).trans (ih h)

theorem passGo_app {b : Blo} {f : Frm} {ys : List (List Int)} : ∀ {xs : List (List Int)} {all : Pairs} {out : List (List Int)} {r : Pairs × List (List Int)}, passGo b f (xs ++ ys) all out = .inr r → ∃ r1, passGo b f xs all out = .inr r1 ∧ passGo b f ys r1.1 r1.2 = .inr r := by
  intro xs
  induction xs with
  | nil => intro all out r h; exact ⟨(all, out), rfl, h⟩
  | cons x xs ih =>
    intro all out r h
    simp only [List.cons_append, passGo] at h ⊢
    split at h
    · cases h
    · rename_i c1
      split at h
      · cases h
      · rename_i c2
        rw [if_neg c1, if_neg c2]
        exact ih h

theorem passGo_out {b : Blo} {f : Frm} : ∀ {xs : List (List Int)} {all : Pairs} {o1 o2 : List (List Int)} {r : Pairs × List (List Int)}, passGo b f xs all (o1 ++ o2) = .inr r → ∃ r2, passGo b f xs all o2 = .inr r2 ∧ r = (r2.1, o1 ++ r2.2) := by
  intro xs
  induction xs with
  | nil =>
    intro all o1 o2 r h
    simp only [passGo, Sum.inr.injEq] at h
    exact ⟨(all, o2), rfl, h.symm⟩
  | cons x xs ih =>
    intro all o1 o2 r h
    simp only [passGo] at h ⊢
    split at h
    · cases h
    · rename_i c1
      split at h
      · cases h
      · rename_i c2
        rw [if_neg c1, if_neg c2]
        rw [List.append_assoc] at h
        exact ih h

theorem pre_get {α : Type} {l m : List α} {x : α} (h : l ++ [x] <+: m) : m[l.length]? = some x ∧ m.take (l.length + 1) = l ++ [x] := by
  obtain ⟨t, rfl⟩ := h
  refine ⟨by simp, ?_⟩
  rw [List.take_append_of_le_length (by simp), List.take_of_length_le (by simp)]
theorem pre_take {α : Type} {l m : List α} (h : l <+: m) : m.take l.length = l := by
  obtain ⟨t, rfl⟩ := h
  rw [List.take_append_of_le_length (by simp), List.take_length]

theorem passGo_at {b : Blo} {f : Frm} : ∀ {xs : List (List Int)} {all : Pairs} {out : List (List Int)} {r : Pairs × List (List Int)}, passGo b f xs all out = .inr r → ∀ (i : Nat) (hi : i < xs.length),
    (keysI b f xs[i] ((all.length + i : Nat) : Int)).2 = 0 ∧ r.1[all.length + i]? = some (keysI b f xs[i] ((all.length + i : Nat) : Int)).1 ∧ (runI b f xs[i] (r.1.take (all.length + i + 1))).2 = 0 ∧ r.2[out.length + i]? = some (runI b f xs[i] (r.1.take (all.length + i + 1))).1 := by
  intro xs
  induction xs with
  | nil => intro all out r h i hi; simp at hi
  | cons x xs ih =>
    intro all out r h i hi
    simp only [passGo] at h
    split at h
    · cases h
    · rename_i c1
      split at h
      · cases h
      · rename_i c2
        match i with
        | 0 =>
          have h1 := pre_get (passGo_len h).2.2.1
          have h2 := pre_get (passGo_pre h)
          simp only [Nat.add_zero, List.getElem_cons_zero]
          rw [h1.2, h1.1, h2.1]
          exact ⟨Decidable.not_not.1 c1, rfl, Decidable.not_not.1 c2, rfl⟩
        | i + 1 =>
          have := ih h i (by simpa using hi)
          simp only [List.length_append, List.length_cons, List.length_nil, Nat.zero_add, List.getElem_cons_succ] at this ⊢
          rw [show all.length + (i + 1) = all.length + 1 + i by omega, show out.length + (i + 1) = out.length + 1 + i by omega]
          exact this

theorem same28 {n : Nat} {ps : Pairs} (h : ∀ p ∈ ps, p.1.length ≤ 1000000000 ∧ p.2.length ≤ 1000000000) (hl : ps.length ≤ 1000000000) (hn : 2000000000 ≤ n) : L_law20_BlockOnes_28 n n (ps, ps, ((ps.length : Nat) : Int), 0, ()) = some (Sum.inr ()) := by
  refine loop_st (L := fun k i (_ : Unit) => L_law20_BlockOnes_28 n k (ps, ps, ((ps.length : Nat) : Int), i, ())) (len := ps.length) (r := Sum.inr ()) (fun _ => ()) ?_ ?_ n (by omega)
  · intro k i hi
    have h1 := h _ (List.getElem_mem hi)
    show L_law20_BlockOnes_28 n (k + 1) _ = _
    rw [L_law20_BlockOnes_28_eq, brk_ite, if_pos (by rw [decide_eq_true_eq]; omega), idx_some hi]
    simp only [Option.bind_some, brk_ite]
    rw [law20_row_int8_refl h1.1 hn]
    simp only [Option.bind_some, Bool.not_true, Bool.false_eq_true, if_false]
    rw [law20_row_int8_refl h1.2 hn]
    simp only [Option.bind_some, Bool.not_true, Bool.false_eq_true, if_false]
    rw [w64 (by omega) (by omega)]
  · intro k
    show L_law20_BlockOnes_28 n (k + 1) _ = _
    rw [L_law20_BlockOnes_28_eq, brk_ite, if_neg (by simp)]

theorem idx_drop {α : Type} {l : List α} {a i : Nat} {x : α} (h : l[a + i]? = some x) : idx (l.drop a) (i : Int) = some x := by
  unfold idx
  rw [if_pos (by omega), Int.toNat_natCast, List.getElem?_drop, h]
theorem idx_of {α : Type} {l : List α} {i : Nat} {x : α} (h : l[i]? = some x) : idx l (i : Int) = some x := by
  unfold idx
  rw [if_pos (by omega), Int.toNat_natCast, h]

set_option maxHeartbeats 4000000 in
theorem ones_of {n : Nat} (hn : 2000000000 ≤ n) (ha : F_law20_awake n () = some true) {g : Blo × Frm × Pairs} {xs : List (List Int)} {cut : Int} (hg : OkG g) (hx : ∀ x ∈ xs, all64 x ∧ x.length ≤ 1000000000) (hxl : xs.length ≤ 1048576) : F_law20_BlockOnes n (g, xs, cut) = some true := by
  obtain ⟨⟨o0, o1, o2, o3, o4, o5, o6, o7, o8, o9, o10, o11, o12, o13, o14, o15, o16⟩, ⟨f0, f1, f2, f3⟩, past⟩ := g
  have hl : past.length ≤ 1048576 := hg.l
  have hb : OkB (o0, o1, o2, o3, o4, o5, o6, o7, o8, o9, o10, o11, o12, o13, o14, o15, o16) := hg.b
  have hf : OkF (f0, f1, f2, f3) := hg.f
  have hp : ∀ p ∈ past, all8 p.1 ∧ all8 p.2 := hg.p
  have hlb : LenB (o0, o1, o2, o3, o4, o5, o6, o7, o8, o9, o10, o11, o12, o13, o14, o15, o16) := hg.lb
  have hlp : ∀ p ∈ past, p.1.length ≤ 1000000000 ∧ p.2.length ≤ 1000000000 := hg.lp
  obtain ⟨B, hB⟩ : ∃ B : Blo, B = (o0, o1, o2, o3, o4, o5, o6, o7, o8, o9, o10, o11, o12, o13, o14, o15, o16) := ⟨_, rfl⟩
  obtain ⟨F, hF⟩ : ∃ F : Frm, F = (f0, f1, f2, f3) := ⟨_, rfl⟩
  rw [← hB] at hb hlb
  rw [← hF] at hf
  rw [F_law20_BlockOnes_eq, ha]
  simp only [Option.bind_some, brk_ite, Bool.not_true, Bool.false_eq_true, if_false, ← hB, ← hF]
  rw [block_Pass hb hf hx hp (by omega) hn]
  simp only [Option.bind_some]
  obtain ⟨G, hG⟩ : ∃ G, G = passGo B F xs past [] := ⟨_, rfl⟩
  have hap : ∀ q : Pairs, q.length ≤ 1000000000 → app 48 [] q = some q := by
    intro q hq
    unfold app
    rw [if_pos (by unfold room; simp; omega)]
    rfl
  match G, hG with
  | .inl e, hG =>
    have hI : passI B F xs past = ([], [], e) := by unfold passI; rw [← hG]
    rw [hI]
    by_cases he : e = 0
    · exfalso
      have := (passI_len (b := B) (f := F) (xs := xs) (past := past) (by rw [hI]; exact he))
      rw [hI] at this
      have hx0 : xs = [] := List.length_eq_zero_iff.1 this.1.symm
      rw [hx0] at hG
      cases hG
    · rw [if_pos (by simpa using he), law20_plain hlb hn, law20_frame (f := F) (by rw [hF]; exact hg.f1) (by rw [hF]; exact hg.f2) (by rw [hF]; exact hg.f3), law20_past hlp (by omega) hn]
      simp only [Option.bind_some]
      rw [ref20_Pass hb hf hx hp (by omega) hn, hI]
      simp
  | .inr r, hG =>
    have hG := hG.symm
    have hI : passI B F xs past = (r.2, r.1.drop past.length, 0) := by unfold passI; rw [hG]
    obtain ⟨k1, k2, k3, k4, k5⟩ := passGo_len hG
    obtain ⟨k6, k7⟩ := passGo_bnd hG (fun x h => (hx x h).2) hlp (fun y hy => (by cases hy))
    simp only [List.length_nil, Nat.zero_add] at k2
    have k8 := k4 hp
    rw [hI]
    rw [if_neg (by simp), if_neg (by simp [k2]), if_neg (by simp [k1]), hap past (by omega)]
    simp only [Option.bind_some]
    have hL := loop_st (L := fun k i s => L_law20_BlockOnes_11 n k (xs, cut, (), r.2, r.1.drop past.length, s, xs, ((xs.length : Nat) : Int), i, (o0, o1, o2, o3, o4, o5, o6, o7, o8, o9, o10, o11, o12, o13, o14, o15, o16, f0, f1, f2, f3, past, ()), ())) (len := xs.length) (r := Sum.inr (xs, cut, (), r.2, r.1.drop past.length, (o0, o1, o2, o3, o4, o5, o6, o7, o8, o9, o10, o11, o12, o13, o14, o15, o16, f0, f1, f2, f3, past, ()), ())) (fun i => r.1.take (past.length + i)) ?_ ?_ n (by omega)
    · rw [Nat.add_zero, pre_take k3] at hL
      rw [hL]
      simp only [Option.bind_some, sumk]
      by_cases c1 : cut < 0
      · rw [if_pos (by simpa using c1)]
      rw [if_neg (by simpa using c1)]
      by_cases c2 : cut > ((xs.length : Nat) : Int)
      · rw [if_pos (by simpa using c2)]
      rw [if_neg (by simpa using c2)]
      obtain ⟨c, rfl⟩ : ∃ c : Nat, cut = (c : Int) := ⟨cut.toNat, by omega⟩
      have s1 : slc xs 0 (c : Int) = some (xs.take c) := by
        unfold slc
        rw [if_pos ⟨by omega, by omega, by omega⟩]
        simp
      have s2 : slc xs (c : Int) ((xs.length : Nat) : Int) = some (xs.drop c) := by
        unfold slc
        rw [if_pos ⟨by omega, by omega, by omega⟩]
        simp
      rw [s1]
      simp only [Option.bind_some, ← hB, ← hF]
      obtain ⟨r1, q1, q2⟩ := passGo_app (xs := xs.take c) (ys := xs.drop c) (by rw [List.take_append_drop]; exact hG)
      obtain ⟨r2, q3, q4⟩ := passGo_out (o1 := r1.2) (o2 := []) (by rw [List.append_nil]; exact q2)
      have hx1 : ∀ x ∈ xs.take c, all64 x ∧ x.length ≤ 1000000000 := fun x h => hx x (List.mem_of_mem_take h)
      have hx2 : ∀ x ∈ xs.drop c, all64 x ∧ x.length ≤ 1000000000 := fun x h => hx x (List.mem_of_mem_drop h)
      obtain ⟨m1, m2, m3, m4, m5⟩ := passGo_len q1
      obtain ⟨n1, n2, n3, n4, n5⟩ := passGo_len q3
      obtain ⟨m6, m7⟩ := passGo_bnd q1 (fun x h => (hx1 x h).2) hlp (fun y hy => (by cases hy))
      simp only [List.length_take, List.length_drop, List.length_nil, Nat.zero_add] at m1 m2 n1 n2
      have m8 := m4 hp
      have hI1 : passI B F (xs.take c) past = (r1.2, r1.1.drop past.length, 0) := by unfold passI; rw [q1]
      have hI2 : passI B F (xs.drop c) r1.1 = (r2.2, r2.1.drop r1.1.length, 0) := by unfold passI; rw [q3]
      rw [block_Pass hb hf hx1 hp (by simp; omega) hn, hI1]
      simp only [Option.bind_some]
      rw [s2]
      simp only [Option.bind_some]
      have e1 : past ++ r1.1.drop past.length = r1.1 := by
        have := pre_take m3
        conv => lhs; lhs; rw [← this]
        exact List.take_append_drop _ _
      have e2 : r1.1.drop past.length ++ r2.1.drop r1.1.length = r.1.drop past.length := by
        obtain ⟨t, ht⟩ := n3
        rw [q4]
        simp only
        rw [← ht, List.drop_left, List.drop_append_of_le_length (by omega)]
      have hap3 : app 48 past (r1.1.drop past.length) = some r1.1 := by
        unfold app
        rw [if_pos (by unfold room; simp; omega), e1]
      rw [hap past (by omega)]
      simp only [Option.bind_some]
      rw [hap3]
      simp only [Option.bind_some]
      rw [block_Pass hb hf hx2 m8 (by simp; omega) hn, hI2]
      simp only [Option.bind_some]
      rw [if_neg (by simp), if_neg (by simp)]
      have hap4 : app 24 [] r1.2 = some r1.2 := by
        unfold app
        rw [if_pos (by unfold room; simp; omega)]
        rfl
      have hap5 : app 24 r1.2 r2.2 = some r.2 := by
        unfold app
        rw [if_pos (by unfold room; omega), q4]
      rw [hap4]
      simp only [Option.bind_some]
      rw [hap5]
      simp only [Option.bind_some]
      rw [law20_rows_refl k7 (by omega) hn]
      simp only [Option.bind_some, Bool.not_true, Bool.false_eq_true, if_false]
      have hr1 : r.1.length = r2.1.length := by rw [q4]
      rw [w64 (by simp; omega) (by simp; omega), if_neg (by simp; omega), hap _ (by simp; omega)]
      simp only [Option.bind_some]
      have hap6 : app 48 (r1.1.drop past.length) (r2.1.drop r1.1.length) = some (r.1.drop past.length) := by
        unfold app
        rw [if_pos (by unfold room; simp; omega), e2]
      rw [hap6]
      simp only [Option.bind_some]
      rw [same28 (fun p h => k6 p (List.mem_of_mem_drop h)) (by simp; omega) hn]
      rfl
    · intro k i hi
      obtain ⟨p1, p2, p3, p4⟩ := passGo_at hG i hi
      have hxi := hx _ (List.getElem_mem hi)
      have hkl := keysI_len (b := B) (f := F) (x := xs[i]) (p := ((past.length + i : Nat) : Int))
      have htl : (r.1.take (past.length + i)).length = past.length + i := by simp; omega
      have hap7 : app 48 (r.1.take (past.length + i)) [(keysI B F xs[i] ((past.length + i : Nat) : Int)).1] = some (r.1.take (past.length + i + 1)) := by
        unfold app
        rw [if_pos (by unfold room; rw [htl]; simp; omega), List.take_add_one, p2]
        rfl
      have htp : ∀ p ∈ r.1.take (past.length + i + 1), all8 p.1 ∧ all8 p.2 := fun p h => k8 p (List.mem_of_mem_take h)
      show L_law20_BlockOnes_11 n (k + 1) _ = _
      rw [L_law20_BlockOnes_11_eq, brk_ite, if_pos (by rw [decide_eq_true_eq]; omega), idx_some hi]
      simp only [Option.bind_some, brk_ite, ← hB, ← hF]
      rw [htl, block_Keys hb hf hxi.2 hn]
      simp only [Option.bind_some]
      rw [p1, if_neg (by simp), idx_drop p2]
      simp only [Option.bind_some]
      rw [law20_row_int8_refl (by omega) hn]
      simp only [Option.bind_some, Bool.not_true, Bool.false_eq_true, if_false]
      rw [law20_row_int8_refl (by omega) hn]
      simp only [Option.bind_some, Bool.not_true, Bool.false_eq_true, if_false]
      rw [hap7]
      simp only [Option.bind_some]
      rw [block_Run hb hf hxi.1 hxi.2 htp (by simp; omega) hn]
      simp only [Option.bind_some]
      simp only [List.length_nil, Nat.zero_add] at p4
      have hrl := runI_len (b := B) (f := F) (x := xs[i]) (past := r.1.take (past.length + i + 1))
      rw [p3, if_neg (by simp), idx_of p4]
      simp only [Option.bind_some]
      rw [law20_row_int64_refl (by omega) hn]
      simp only [Option.bind_some, Bool.not_true, Bool.false_eq_true, if_false]
      rw [w64 (by omega) (by omega)]
      rfl
    · intro k
      show L_law20_BlockOnes_11 n (k + 1) _ = _
      rw [L_law20_BlockOnes_11_eq, brk_ite, if_neg (by rw [decide_eq_true_eq]; omega)]

theorem blockOnes_plain (x : (Ty.pair TGiven (.pair (.sl TL64) TN)).den) (h : wfT (.pair TGiven (.pair (.sl TL64) TN)) x) (hb : bulkT (.pair TGiven (.pair (.sl TL64) TN)) x ≤ 1048576) : ∃ n, F_law20_BlockOnes n x = some true := by
  have hb : bulkT TGiven x.1 + (bulkT (.sl TL64) x.2.1 + bulkT TN x.2.2) ≤ 1048576 := hb
  obtain ⟨h1, h2⟩ := wf_X (l := x.2.1) h.2.1 (by omega)
  exact ⟨2000000000, ones_of (Nat.le_refl _) law20_awake (g := x.1) (xs := x.2.1) (cut := x.2.2) (wf_G h.1 (by omega)) h1 h2⟩

end Go.Am.Pu
