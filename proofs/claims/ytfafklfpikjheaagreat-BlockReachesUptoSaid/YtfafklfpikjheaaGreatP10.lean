import Derived.Test.YtfafklfpikjheaaGreatP9
set_option linter.unusedVariables false
set_option linter.unusedSimpArgs false
/- Plain laws: the small model of the laws of layer 20. -/
namespace Go.Am.Pu
open Go Go.Am Go.Proofs
set_option maxRecDepth 100000
theorem small_row4_0 : F_ref16_row 2000000000 (10346034117385188870, 4) = some ([20, 91, 123, 114], 8237903092696572954) := by kernel_rfl
theorem small_row4_1 : F_ref16_row 2000000000 (8237903092696572954, 4) = some ([-94, 93, 12, 24], 1794984045769886574) := by kernel_rfl
theorem small_row4_2 : F_ref16_row 2000000000 (1794984045769886574, 4) = some ([-23, 50, -125, -7], 17980115891931348994) := by kernel_rfl
theorem small_row4_3 : F_ref16_row 2000000000 (17980115891931348994, 4) = some ([54, 105, -82, -65], 13819126590027240918) := by kernel_rfl
theorem small_row4_4 : F_ref16_row 2000000000 (13819126590027240918, 4) = some ([-34, 48, 124, 116], 8360805673751372010) := by kernel_rfl
theorem small_row4_5 : F_ref16_row 2000000000 (8360805673751372010, 4) = some ([45, 111, 19, -102], 11101546788561990974) := by kernel_rfl
theorem small_row4_6 : F_ref16_row 2000000000 (11101546788561990974, 4) = some ([74, 13, -88, 45], 3301617674701350610) := by kernel_rfl
theorem small_row6b : F_ref16_row 2000000000 (3301617674701350610, 6) = some ([-84, -70, -79, -117, -127, 32], 2334851202895766344) := by kernel_rfl
theorem small_root2 : F_ref16_root 2000000000 2 = some 1 := by kernel_rfl
theorem small_same2 : F_ref16_same 2000000000 (64, 2) = some [64, 64] := by kernel_rfl
theorem small_row6 : F_ref16_row 2000000000 (0, 6) = some ([20, 26, -102, 102, 98, -113], 10346034117385188870) := by kernel_rfl
theorem small_table : F_ref10_Table 2000000000 (4, 1) = some ([64, 0, -64, 0], [0, 64, 0, -64], 0) := by kernel_rfl
theorem small_check : F_ref16_Check 2000000000 (3, 4, 2, 1, 1, 2) = some 0 := by kernel_rfl
theorem small_half : F_ref16_Half 2000000000 (3, 4, 2, 1, 1, 2) = some 1 := by kernel_rfl
theorem small_texts : F_ref16_texts 2000000000 3 = some ([[], [97], [98]], []) := by kernel_rfl
def m0 : (Int × Int × Int × Int × Int × Int) × ((List (List UInt8)) × (List (Int × Int × Int))) × (List Int) × Int × (List Int) × (List Int) × (List Blo) × (List Int) × (List Int) × (List Int) × Int :=
  ((3, 4, 2, 1, 1, 2), ([[], [97], [98]], []), [20, 26, -102, 102, 98, -113], 2, [64, 0, -64, 0], [0, 64, 0, -64], [b0], bend0, [64, 64], [-84, -70, -79, -117, -127, 32], 5)


theorem small_loop {n : Nat} (small_row4_0 : F_ref16_row n (10346034117385188870, 4) = some ([20, 91, 123, 114], 8237903092696572954)) (small_row4_1 : F_ref16_row n (8237903092696572954, 4) = some ([-94, 93, 12, 24], 1794984045769886574)) (small_row4_2 : F_ref16_row n (1794984045769886574, 4) = some ([-23, 50, -125, -7], 17980115891931348994)) (small_row4_3 : F_ref16_row n (17980115891931348994, 4) = some ([54, 105, -82, -65], 13819126590027240918)) (small_row4_4 : F_ref16_row n (13819126590027240918, 4) = some ([-34, 48, 124, 116], 8360805673751372010)) (small_row4_5 : F_ref16_row n (8360805673751372010, 4) = some ([45, 111, 19, -102], 11101546788561990974)) (small_row4_6 : F_ref16_row n (11101546788561990974, 4) = some ([74, 13, -88, 45], 3301617674701350610)) (small_row6b : F_ref16_row n (3301617674701350610, 6) = some ([-84, -70, -79, -117, -127, 32], 2334851202895766344)) (small_root2 : F_ref16_root n 2 = some 1) (small_same2 : F_ref16_same n (64, 2) = some [64, 64]) (small_row6 : F_ref16_row n (0, 6) = some ([20, 26, -102, 102, 98, -113], 10346034117385188870)) (small_table : F_ref10_Table n (4, 1) = some ([64, 0, -64, 0], [0, 64, 0, -64], 0)) (small_check : F_ref16_Check n (3, 4, 2, 1, 1, 2) = some 0) (small_half : F_ref16_Half n (3, 4, 2, 1, 1, 2) = some 1) (small_texts : F_ref16_texts n 3 = some ([[], [97], [98]], [])) (small_bend : F_ref12_Table n 2 = some (bend0, 0)) (be : List Int) (k : Nat) : L_ref16_Sample_11 n (k + 1 + 1) ((), ((), (2, (2, ((), (10346034117385188870, (0, ((3, (4, (2, (1, (1, (2, ())))))), ((0, (0, (0, (0, (0, (0, ([], ([], ([], (0, ([], ([], ([], ([], ([], ([], (0, ()))))))))))))))))), ((3, (4, (2, (1, (1, (2, ([[], [97], [98]], ([], ([20, 26, -102, 102, 98, -113], (2, ([64, 0, -64, 0], ([0, 64, 0, -64], ([], (be, ([64, 64], ([], (5, ()))))))))))))))))), ())))))))))) =
    some ((), ((), (2, ((), (3301617674701350610, ((3, (4, (2, (1, (1, (2, ())))))), ((0, (0, (0, (0, (0, (0, ([], ([], ([], (0, ([], ([], ([], ([], ([], ([], (0, ()))))))))))))))))), ((3, (4, (2, (1, (1, (2, ([[], [97], [98]], ([], ([20, 26, -102, 102, 98, -113], (2, ([64, 0, -64, 0], ([0, 64, 0, -64], ([b0], (be, ([64, 64], ([], (5, ()))))))))))))))))), ())))))))) := by
  rw [L_ref16_Sample_11_eq, brk_ite, if_pos (by decide)]
  simp only [show IntKind.wrap .i64 (2 * 2) = 4 from rfl]
  rw [small_same2, small_root2, small_row4_0]
  simp only [Option.bind_some]
  rw [small_row4_1]
  simp only [Option.bind_some]
  rw [small_row4_2]
  simp only [Option.bind_some]
  rw [small_row4_3]
  simp only [Option.bind_some]
  rw [small_row4_4]
  simp only [Option.bind_some]
  rw [small_row4_5]
  simp only [Option.bind_some]
  rw [small_row4_6]
  simp only [Option.bind_some]
  have ha : ∀ b : Blo, app 280 [] [b] = some [b] := fun _ => rfl
  rw [ha]
  simp only [Option.bind_some]
  rw [L_ref16_Sample_11_eq, brk_ite, if_neg (by decide)]
  rfl

theorem small_sample_of {k n : Nat} (hk : n = k + 1 + 1) (small_row4_0 : F_ref16_row n (10346034117385188870, 4) = some ([20, 91, 123, 114], 8237903092696572954)) (small_row4_1 : F_ref16_row n (8237903092696572954, 4) = some ([-94, 93, 12, 24], 1794984045769886574)) (small_row4_2 : F_ref16_row n (1794984045769886574, 4) = some ([-23, 50, -125, -7], 17980115891931348994)) (small_row4_3 : F_ref16_row n (17980115891931348994, 4) = some ([54, 105, -82, -65], 13819126590027240918)) (small_row4_4 : F_ref16_row n (13819126590027240918, 4) = some ([-34, 48, 124, 116], 8360805673751372010)) (small_row4_5 : F_ref16_row n (8360805673751372010, 4) = some ([45, 111, 19, -102], 11101546788561990974)) (small_row4_6 : F_ref16_row n (11101546788561990974, 4) = some ([74, 13, -88, 45], 3301617674701350610)) (small_row6b : F_ref16_row n (3301617674701350610, 6) = some ([-84, -70, -79, -117, -127, 32], 2334851202895766344)) (small_root2 : F_ref16_root n 2 = some 1) (small_same2 : F_ref16_same n (64, 2) = some [64, 64]) (small_row6 : F_ref16_row n (0, 6) = some ([20, 26, -102, 102, 98, -113], 10346034117385188870)) (small_table : F_ref10_Table n (4, 1) = some ([64, 0, -64, 0], [0, 64, 0, -64], 0)) (small_check : F_ref16_Check n (3, 4, 2, 1, 1, 2) = some 0) (small_half : F_ref16_Half n (3, 4, 2, 1, 1, 2) = some 1) (small_texts : F_ref16_texts n 3 = some ([[], [97], [98]], [])) (small_bend : F_ref12_Table n 2 = some (bend0, 0)) : F_ref16_Sample n ((3, 4, 2, 1, 1, 2), 0) = some (m0, 0) := by
  rw [F_ref16_Sample_eq]
  simp only
  rw [small_check]
  simp only [Option.bind_some]
  rw [brk_ite, if_neg (by decide), small_texts, small_root2, small_same2, small_half]
  simp only [Option.bind_some]
  rw [small_table, small_bend]
  simp only [Option.bind_some]
  rw [show IntKind.wrap .u64 0 = 0 from rfl, show IntKind.wrap .i64 (3 * 2) = 6 from rfl, small_row6]
  simp only [Option.bind_some]
  have hl := small_loop small_row4_0 small_row4_1 small_row4_2 small_row4_3 small_row4_4 small_row4_5 small_row4_6 small_row6b small_root2 small_same2 small_row6 small_table small_check small_half small_texts small_bend bend0 k
  rw [← hk] at hl
  rw [show IntKind.wrap .i64 (4 + 1) = 5 from rfl, hl]
  simp only [Option.bind_some]
  rw [show IntKind.wrap .i64 (3 * 2) = 6 from rfl, small_row6b]
  rfl

theorem small_sample : F_ref16_Sample 2000000000 ((3, 4, 2, 1, 1, 2), 0) = some (m0, 0) := small_sample_of (k := 1999999998) (by decide) small_row4_0 small_row4_1 small_row4_2 small_row4_3 small_row4_4 small_row4_5 small_row4_6 small_row6b small_root2 small_same2 small_row6 small_table small_check small_half small_texts small_bend

theorem app_own {l : List Int} {b : Nat} (h : l.length ≤ 1000000000) (hb : b ≤ 1000) : app b [] l = some l := by
  unfold app
  rw [if_pos]
  · rfl
  · have : l.length * b ≤ 1000000000 * 1000 := Nat.mul_le_mul h hb
    unfold room; simp; omega
theorem ref16_own {n : Nat} {l : List Int} (h : l.length ≤ 1000000000) : F_ref16_own n l = some l := by
  rw [F_ref16_own_eq, app_own h (by omega)]
  rfl

/-- lists of a block within bounds -/
structure LenB (b : Blo) : Prop where
  g1 : b.1.length ≤ 1000000000
  q : b.2.1.length ≤ 1000000000
  k : b.2.2.1.length ≤ 1000000000
  v : b.2.2.2.1.length ≤ 1000000000
  o : b.2.2.2.2.1.length ≤ 1000000000
  g2 : b.2.2.2.2.2.1.length ≤ 1000000000
  m1 : b.2.2.2.2.2.2.2.2.2.2.2.1.length ≤ 1000000000
  m2 : b.2.2.2.2.2.2.2.2.2.2.2.2.1.length ≤ 1000000000
  m3 : b.2.2.2.2.2.2.2.2.2.2.2.2.2.1.length ≤ 1000000000

theorem blo_eta (b : Blo) : (b.1, b.2.1, b.2.2.1, b.2.2.2.1, b.2.2.2.2.1, b.2.2.2.2.2.1, b.2.2.2.2.2.2.1, b.2.2.2.2.2.2.2.1, b.2.2.2.2.2.2.2.2.1, b.2.2.2.2.2.2.2.2.2.1, b.2.2.2.2.2.2.2.2.2.2.1, b.2.2.2.2.2.2.2.2.2.2.2.1, b.2.2.2.2.2.2.2.2.2.2.2.2.1, b.2.2.2.2.2.2.2.2.2.2.2.2.2.1, b.2.2.2.2.2.2.2.2.2.2.2.2.2.2) = b := rfl

theorem ref16_Of_one {n : Nat} {s : Int × Int × Int × Int × Int × Int} {t : List (List UInt8)} {e : List Int} {es : Int} {c si : List Int} {b : Blo} {be g u : List Int} {ls : Int} (ht : t.length ≤ 1000000000) (he : e.length ≤ 1000000000) (hc : c.length ≤ 1000000000) (hsi : si.length ≤ 1000000000) (hb : LenB b) (hbe : be.length ≤ 1000000000) (hg : g.length ≤ 1000000000) (hu : u.length ≤ 1000000000) (hn : 2 ≤ n) :
    F_ref16_Of n (s, (t, []), e, es, c, si, [b], be, g, u, ls) = some (s, (t, []), e, es, c, si, [b], be, g, u, ls) := by
  obtain ⟨k, rfl⟩ : ∃ k, n = k + 1 + 1 := ⟨n - 2, by omega⟩
  obtain ⟨s1, s2, s3, s4, s5, s6⟩ := s
  have h7 : app 16 [] t = some t := by
    unfold app
    rw [if_pos (by unfold room; simp; omega)]
    rfl
  rw [F_ref16_Of_eq]
  simp only
  rw [ref16_own he, ref16_own hc, ref16_own hsi, ref16_own hbe, ref16_own hg, ref16_own hu, h7]
  simp only [Option.bind_some]
  rw [L_ref16_Of_6_eq, brk_ite, if_neg (by decide)]
  simp only [Option.bind_some]
  rw [L_ref16_Of_11_eq, brk_ite, if_pos (show decide ((0 : Int) < ((([b] : List Blo).length : Nat) : Int)) = true from rfl)]
  rw [show idx [b] 0 = some b from rfl]
  simp only [Option.bind_some]
  rw [ref16_own hb.g1, ref16_own hb.q, ref16_own hb.k, ref16_own hb.v, ref16_own hb.o, ref16_own hb.g2, ref16_own hb.m1, ref16_own hb.m2, ref16_own hb.m3]
  simp only [Option.bind_some]
  rw [show app 280 [] [b] = some [b] from rfl]
  simp only [Option.bind_some]
  rw [L_ref16_Of_11_eq, brk_ite, if_neg (show ¬ decide (IntKind.wrap IntKind.i64 (0 + 1) < ((([b] : List Blo).length : Nat) : Int)) = true from Bool.false_ne_true)]
  rfl

theorem ref16_To_one {n : Nat} {s : Int × Int × Int × Int × Int × Int} {t : List (List UInt8)} {e : List Int} {es : Int} {c si : List Int} {b : Blo} {be g u : List Int} {ls : Int} (ht : t.length ≤ 1000000000) (he : e.length ≤ 1000000000) (hc : c.length ≤ 1000000000) (hsi : si.length ≤ 1000000000) (hb : LenB b) (hbe : be.length ≤ 1000000000) (hg : g.length ≤ 1000000000) (hu : u.length ≤ 1000000000) (hn : 2 ≤ n) :
    F_ref16_To n (s, (t, []), e, es, c, si, [b], be, g, u, ls) = some (s, (t, []), e, es, c, si, [b], be, g, u, ls) := by
  obtain ⟨k, rfl⟩ : ∃ k, n = k + 1 + 1 := ⟨n - 2, by omega⟩
  obtain ⟨s1, s2, s3, s4, s5, s6⟩ := s
  have h7 : app 16 [] t = some t := by
    unfold app
    rw [if_pos (by unfold room; simp; omega)]
    rfl
  rw [F_ref16_To_eq]
  simp only
  rw [ref16_own he, ref16_own hc, ref16_own hsi, ref16_own hbe, ref16_own hg, ref16_own hu, h7]
  simp only [Option.bind_some]
  rw [L_ref16_To_6_eq, brk_ite, if_neg (by decide)]
  simp only [Option.bind_some]
  rw [L_ref16_To_11_eq, brk_ite, if_pos (show decide ((0 : Int) < ((([b] : List Blo).length : Nat) : Int)) = true from rfl)]
  rw [show idx [b] 0 = some b from rfl]
  simp only [Option.bind_some]
  rw [ref16_own hb.g1, ref16_own hb.q, ref16_own hb.k, ref16_own hb.v, ref16_own hb.o, ref16_own hb.g2, ref16_own hb.m1, ref16_own hb.m2, ref16_own hb.m3]
  simp only [Option.bind_some]
  rw [show app 280 [] [b] = some [b] from rfl]
  simp only [Option.bind_some]
  rw [L_ref16_To_11_eq, brk_ite, if_neg (show ¬ decide (IntKind.wrap IntKind.i64 (0 + 1) < ((([b] : List Blo).length : Nat) : Int)) = true from Bool.false_ne_true)]
  rfl

theorem small_len : LenB b0 := ⟨by decide, by decide, by decide, by decide, by decide, by decide, by decide, by decide, by decide⟩
theorem law20_small : F_law20_small 2000000000 () = some (b0, f0) := by
  rw [F_law20_small_eq, small_sample]
  simp only [Option.bind_some]
  show ((F_ref16_To 2000000000 m0).bind _) = _
  unfold m0
  rw [ref16_To_one (by decide) (by decide) (by decide) (by decide) small_len (by decide) (by decide) (by decide) (by decide)]
  rfl

end Go.Am.Pu

/- Plain laws: passes of a block (layer 20). -/
namespace Go.Am.Pu
open Go Go.Am

/-- rows one behind the other -/
noncomputable def passGo (b : Blo) (f : Frm) : List (List Int) → Pairs → List (List Int) → Int ⊕ (Pairs × List (List Int))
  | [], all, out => .inr (all, out)
  | x :: xs, all, out =>
    if (keysI b f x (all.length : Int)).2 ≠ 0 then .inl (keysI b f x (all.length : Int)).2 else
    if (runI b f x (all ++ [(keysI b f x (all.length : Int)).1])).2 ≠ 0 then .inl (runI b f x (all ++ [(keysI b f x (all.length : Int)).1])).2 else
    passGo b f xs (all ++ [(keysI b f x (all.length : Int)).1]) (out ++ [(runI b f x (all ++ [(keysI b f x (all.length : Int)).1])).1])
noncomputable def passI (b : Blo) (f : Frm) (xs : List (List Int)) (past : Pairs) : List (List Int) × Pairs × Int :=
  match passGo b f xs past [] with
  | .inl e => ([], [], e)
  | .inr r => (r.2, r.1.drop past.length, 0)

theorem keysI_all {b : Blo} {f : Frm} {x : List Int} {p : Int} : all8 (keysI b f x p).1.1 ∧ all8 (keysI b f x p).1.2 := by
  have hnil : all8 [] := fun x hx => (by cases hx)
  unfold keysI
  simp only
  split
  · exact ⟨hnil, hnil⟩
  · split
    · exact ⟨hnil, hnil⟩
    · split
      · exact ⟨hnil, hnil⟩
      · split
        · exact ⟨hnil, hnil⟩
        · exact ⟨turnedI_all.all8, throughI_all.all8⟩

theorem passGo_len {b : Blo} {f : Frm} : ∀ {xs : List (List Int)} {all : Pairs} {out : List (List Int)} {r : Pairs × List (List Int)}, passGo b f xs all out = .inr r → r.1.length = all.length + xs.length ∧ r.2.length = out.length + xs.length ∧ all <+: r.1 ∧ ((∀ p ∈ all, all8 p.1 ∧ all8 p.2) → ∀ p ∈ r.1, all8 p.1 ∧ all8 p.2) ∧ ((∀ y ∈ out, all64 y) → ∀ y ∈ r.2, all64 y) := by
  intro xs
  induction xs with
  | nil =>
    intro all out r h
    simp only [passGo, Sum.inr.injEq] at h
    subst h
    exact ⟨by simp, by simp, List.prefix_rfl, fun h => h, fun h => h⟩
  | cons x xs ih =>
    intro all out r h
    simp only [passGo] at h
    split at h
    · cases h
    · split at h
      · cases h
      · obtain ⟨h1, h2, h3, h4, h5⟩ := ih h
        refine ⟨by simp at h1 ⊢; omega, by simp at h2 ⊢; omega, (List.prefix_append _ _).trans h3, fun ha => h4 ?_, fun ha => h5 ?_⟩
        · intro p hp
          rcases List.mem_append.1 hp with hp | hp
          · exact ha p hp
          · rw [List.mem_singleton.1 hp]; exact keysI_all
        · intro y hy
          rcases List.mem_append.1 hy with hy | hy
          · exact ha y hy
          · rw [List.mem_singleton.1 hy]; exact runI_all


theorem block_Pass_loop {n : Nat} {past : Pairs} {xs : List (List Int)} {o0 o1 o2 o3 o4 o5 : List Int} {o6 o7 o8 o9 o10 : Int} {o11 o12 o13 : List Int} {o14 o15 o16 : Int} {f0 : Int} {f1 f2 f3 : List Int} (hb : OkB (o0, o1, o2, o3, o4, o5, o6, o7, o8, o9, o10, o11, o12, o13, o14, o15, o16)) (hf : OkF (f0, f1, f2, f3)) (hx8 : ∀ x ∈ xs, all64 x ∧ x.length ≤ 1000000000) (hxl : xs.length ≤ 1000000000) (hn : 2000000000 ≤ n) :
    ∀ (m k i : Nat) (all : Pairs) (out : List (List Int)), i + m = xs.length → m < k → (∀ p ∈ all, all8 p.1 ∧ all8 p.2) → all.length + m ≤ 1000000000 → out.length + m ≤ 1000000000 →
    L_block_Pass_4 n k (past, (), (), all, out, xs, ((xs.length : Nat) : Int), (i : Int), (o0, o1, o2, o3, o4, o5, o6, o7, o8, o9, o10, o11, o12, o13, o14, o15, o16, ()), (f0, f1, f2, f3, ()), ()) =
      some (match passGo (o0, o1, o2, o3, o4, o5, o6, o7, o8, o9, o10, o11, o12, o13, o14, o15, o16) (f0, f1, f2, f3) (xs.drop i) all out with | .inl e => Sum.inl ([], ([], (e, ()))) | .inr r => Sum.inr (past, (r.1, (r.2, ())))) := by
  intro m
  induction m with
  | zero =>
    intro k i all out h1 h2 _ _ _
    obtain ⟨k, rfl⟩ : ∃ j, k = j + 1 := ⟨k - 1, by omega⟩
    rw [L_block_Pass_4_eq, brk_ite, if_neg (by rw [decide_eq_true_eq]; omega), List.drop_of_length_le (by omega)]
    rfl
  | succ m ih =>
    intro k i all out h1 h2 h3 h4 h5
    obtain ⟨k, rfl⟩ : ∃ j, k = j + 1 := ⟨k - 1, by omega⟩
    have hi : i < xs.length := by omega
    obtain ⟨x, hx⟩ : ∃ x, x = xs[i] := ⟨_, rfl⟩
    have hxm : x ∈ xs := by rw [hx]; exact List.getElem_mem hi
    rw [L_block_Pass_4_eq, brk_ite, if_pos (by rw [decide_eq_true_eq]; omega), idx_some hi, ← hx, List.drop_eq_getElem_cons hi, ← hx]
    simp only [Option.bind_some, passGo]
    rw [block_Keys hb hf (hx8 x hxm).2 hn]
    simp only [Option.bind_some, brk_ite, bne_iff_ne]
    obtain ⟨K, hK⟩ : ∃ K, K = keysI (o0, o1, o2, o3, o4, o5, o6, o7, o8, o9, o10, o11, o12, o13, o14, o15, o16) (f0, f1, f2, f3) x (all.length : Int) := ⟨_, rfl⟩
    have hK8 : all8 K.1.1 ∧ all8 K.1.2 := by rw [hK]; exact keysI_all
    rw [← hK]
    by_cases c1 : K.2 ≠ 0
    · rw [if_pos c1, if_pos c1]
    rw [if_neg c1, if_neg c1]
    have hap : app 48 all [K.1] = some (all ++ [K.1]) := by
      unfold app
      rw [if_pos (by unfold room; simp; omega)]
    have h3' : ∀ p ∈ all ++ [K.1], all8 p.1 ∧ all8 p.2 := by
      intro p hp
      rcases List.mem_append.1 hp with hp | hp
      · exact h3 p hp
      · rw [List.mem_singleton.1 hp]; exact hK8
    rw [hap]
    simp only [Option.bind_some]
    rw [block_Run hb hf (hx8 x hxm).1 (hx8 x hxm).2 h3' (by simp; omega) hn]
    simp only [Option.bind_some]
    obtain ⟨R, hR⟩ : ∃ R, R = runI (o0, o1, o2, o3, o4, o5, o6, o7, o8, o9, o10, o11, o12, o13, o14, o15, o16) (f0, f1, f2, f3) x (all ++ [K.1]) := ⟨_, rfl⟩
    rw [← hR]
    by_cases c2 : R.2 ≠ 0
    · rw [if_pos c2, if_pos c2]
    rw [if_neg c2, if_neg c2]
    have hap2 : app 24 out [R.1] = some (out ++ [R.1]) := by
      unfold app
      rw [if_pos (by unfold room; simp; omega)]
    rw [hap2]
    simp only [Option.bind_some]
    rw [w64 (by omega) (by omega)]
    exact ih k (i + 1) (all ++ [K.1]) (out ++ [R.1]) (by omega) (by omega) h3' (by simp; omega) (by simp; omega)

theorem block_Pass {n : Nat} {b : Blo} {f : Frm} {xs : List (List Int)} {past : Pairs} (hb : OkB b) (hf : OkF f) (hx8 : ∀ x ∈ xs, all64 x ∧ x.length ≤ 1000000000) (hp : ∀ p ∈ past, all8 p.1 ∧ all8 p.2) (hl : past.length + xs.length ≤ 1000000000) (hn : 2000000000 ≤ n) : F_block_Pass n (b, f, xs, past) = some (passI b f xs past) := by
  obtain ⟨o0, o1, o2, o3, o4, o5, o6, o7, o8, o9, o10, o11, o12, o13, o14, o15, o16⟩ := b
  obtain ⟨f0, f1, f2, f3⟩ := f
  rw [F_block_Pass_eq]
  have hap : app 48 [] past = some past := by
    unfold app
    rw [if_pos (by unfold room; simp; omega)]
    rfl
  rw [hap]
  simp only [Option.bind_some]
  have hL := block_Pass_loop (past := past) hb hf hx8 (by omega) hn xs.length n 0 past [] (by omega) (by omega) hp (by omega) (by simp; omega)
  rw [Int.natCast_zero, List.drop_zero] at hL
  rw [hL]
  unfold passI
  obtain ⟨G, hG⟩ : ∃ G, G = passGo (o0, o1, o2, o3, o4, o5, o6, o7, o8, o9, o10, o11, o12, o13, o14, o15, o16) (f0, f1, f2, f3) xs past [] := ⟨_, rfl⟩
  rw [← hG]
  match G, hG with
  | .inl e, hG => rfl
  | .inr r, hG =>
    obtain ⟨h1, h2, h3, _⟩ := passGo_len hG.symm
    simp only [Option.bind_some, sumk]
    unfold slc
    rw [if_pos ⟨by omega, by omega, by omega⟩]
    simp only [Option.bind_some, Int.toNat_natCast, List.take_length]

theorem ref20_Pass_loop {n : Nat} {past : Pairs} {xs : List (List Int)} {o0 o1 o2 o3 o4 o5 : List Int} {o6 o7 o8 o9 o10 : Int} {o11 o12 o13 : List Int} {o14 o15 o16 : Int} {f0 : Int} {f1 f2 f3 : List Int} (hb : OkB (o0, o1, o2, o3, o4, o5, o6, o7, o8, o9, o10, o11, o12, o13, o14, o15, o16)) (hf : OkF (f0, f1, f2, f3)) (hx8 : ∀ x ∈ xs, all64 x ∧ x.length ≤ 1000000000) (hxl : xs.length ≤ 1000000000) (hn : 2000000000 ≤ n) :
    ∀ (m k i : Nat) (all : Pairs) (out : List (List Int)), i + m = xs.length → m < k → (∀ p ∈ all, all8 p.1 ∧ all8 p.2) → all.length + m ≤ 1000000000 → out.length + m ≤ 1000000000 →
    L_ref20_Pass_4 n k (past, (), (), all, out, xs, ((xs.length : Nat) : Int), (i : Int), (o0, o1, o2, o3, o4, o5, o6, o7, o8, o9, o10, o11, o12, o13, o14, o15, o16, ()), (f0, f1, f2, f3, ()), ()) =
      some (match passGo (o0, o1, o2, o3, o4, o5, o6, o7, o8, o9, o10, o11, o12, o13, o14, o15, o16) (f0, f1, f2, f3) (xs.drop i) all out with | .inl e => Sum.inl ([], ([], (e, ()))) | .inr r => Sum.inr (past, (r.1, (r.2, ())))) := by
  intro m
  induction m with
  | zero =>
    intro k i all out h1 h2 _ _ _
    obtain ⟨k, rfl⟩ : ∃ j, k = j + 1 := ⟨k - 1, by omega⟩
    rw [L_ref20_Pass_4_eq, brk_ite, if_neg (by rw [decide_eq_true_eq]; omega), List.drop_of_length_le (by omega)]
    rfl
  | succ m ih =>
    intro k i all out h1 h2 h3 h4 h5
    obtain ⟨k, rfl⟩ : ∃ j, k = j + 1 := ⟨k - 1, by omega⟩
    have hi : i < xs.length := by omega
    obtain ⟨x, hx⟩ : ∃ x, x = xs[i] := ⟨_, rfl⟩
    have hxm : x ∈ xs := by rw [hx]; exact List.getElem_mem hi
    rw [L_ref20_Pass_4_eq, brk_ite, if_pos (by rw [decide_eq_true_eq]; omega), idx_some hi, ← hx, List.drop_eq_getElem_cons hi, ← hx]
    simp only [Option.bind_some, passGo]
    rw [ref20_Keys hb hf (hx8 x hxm).2 hn]
    simp only [Option.bind_some, brk_ite, bne_iff_ne]
    obtain ⟨K, hK⟩ : ∃ K, K = keysI (o0, o1, o2, o3, o4, o5, o6, o7, o8, o9, o10, o11, o12, o13, o14, o15, o16) (f0, f1, f2, f3) x (all.length : Int) := ⟨_, rfl⟩
    have hK8 : all8 K.1.1 ∧ all8 K.1.2 := by rw [hK]; exact keysI_all
    rw [← hK]
    by_cases c1 : K.2 ≠ 0
    · rw [if_pos c1, if_pos c1]
    rw [if_neg c1, if_neg c1]
    have hap : app 48 all [K.1] = some (all ++ [K.1]) := by
      unfold app
      rw [if_pos (by unfold room; simp; omega)]
    have h3' : ∀ p ∈ all ++ [K.1], all8 p.1 ∧ all8 p.2 := by
      intro p hp
      rcases List.mem_append.1 hp with hp | hp
      · exact h3 p hp
      · rw [List.mem_singleton.1 hp]; exact hK8
    rw [hap]
    simp only [Option.bind_some]
    rw [ref20_Run hb hf (hx8 x hxm).1 (hx8 x hxm).2 h3' (by simp; omega) hn]
    simp only [Option.bind_some]
    obtain ⟨R, hR⟩ : ∃ R, R = runI (o0, o1, o2, o3, o4, o5, o6, o7, o8, o9, o10, o11, o12, o13, o14, o15, o16) (f0, f1, f2, f3) x (all ++ [K.1]) := ⟨_, rfl⟩
    rw [← hR]
    by_cases c2 : R.2 ≠ 0
    · rw [if_pos c2, if_pos c2]
    rw [if_neg c2, if_neg c2]
    have hap2 : app 24 out [R.1] = some (out ++ [R.1]) := by
      unfold app
      rw [if_pos (by unfold room; simp; omega)]
    rw [hap2]
    simp only [Option.bind_some]
    rw [w64 (by omega) (by omega)]
    exact ih k (i + 1) (all ++ [K.1]) (out ++ [R.1]) (by omega) (by omega) h3' (by simp; omega) (by simp; omega)

theorem ref20_Pass {n : Nat} {b : Blo} {f : Frm} {xs : List (List Int)} {past : Pairs} (hb : OkB b) (hf : OkF f) (hx8 : ∀ x ∈ xs, all64 x ∧ x.length ≤ 1000000000) (hp : ∀ p ∈ past, all8 p.1 ∧ all8 p.2) (hl : past.length + xs.length ≤ 1000000000) (hn : 2000000000 ≤ n) : F_ref20_Pass n (b, f, xs, past) = some (passI b f xs past) := by
  obtain ⟨o0, o1, o2, o3, o4, o5, o6, o7, o8, o9, o10, o11, o12, o13, o14, o15, o16⟩ := b
  obtain ⟨f0, f1, f2, f3⟩ := f
  rw [F_ref20_Pass_eq]
  have hap : app 48 [] past = some past := by
    unfold app
    rw [if_pos (by unfold room; simp; omega)]
    rfl
  rw [hap]
  simp only [Option.bind_some]
  have hL := ref20_Pass_loop (past := past) hb hf hx8 (by omega) hn xs.length n 0 past [] (by omega) (by omega) hp (by omega) (by simp; omega)
  rw [Int.natCast_zero, List.drop_zero] at hL
  rw [hL]
  unfold passI
  obtain ⟨G, hG⟩ : ∃ G, G = passGo (o0, o1, o2, o3, o4, o5, o6, o7, o8, o9, o10, o11, o12, o13, o14, o15, o16) (f0, f1, f2, f3) xs past [] := ⟨_, rfl⟩
  rw [← hG]
  match G, hG with
  | .inl e, hG => rfl
  | .inr r, hG =>
    obtain ⟨h1, h2, h3, _⟩ := passGo_len hG.symm
    simp only [Option.bind_some, sumk]
    unfold slc
    rw [if_pos ⟨by omega, by omega, by omega⟩]
    simp only [Option.bind_some, Int.toNat_natCast, List.take_length]

end Go.Am.Pu

/- Plain laws: the helpers of the laws of layer 20; the small block goes through. -/
namespace Go.Am.Pu
open Go Go.Am


theorem law20_row_int64_refl {n : Nat} {a : List Int} (h : a.length ≤ 1000000000) (hn : 2000000000 ≤ n) : F_law20_row_int64 n (a, a) = some true := by
  rw [F_law20_row_int64_eq, brk_ite, if_neg (by simp)]
  have hL := loop_st (L := fun k i (_ : Unit) => L_law20_row_int64_4 n k (a, a, ((a.length : Nat) : Int), i, ())) (len := a.length) (r := Sum.inr ()) (fun _ => ()) ?_ ?_ n (by omega)
  · rw [hL]; rfl
  · intro k i hi
    show L_law20_row_int64_4 n (k + 1) _ = _
    rw [L_law20_row_int64_4_eq, brk_ite, if_pos (by rw [decide_eq_true_eq]; omega), idx_getD hi 0]
    simp only [Option.bind_some, brk_ite]
    rw [if_neg (by simp), w64 (by omega) (by omega)]
  · intro k
    show L_law20_row_int64_4 n (k + 1) _ = _
    rw [L_law20_row_int64_4_eq, brk_ite, if_neg (by simp)]

theorem law20_row_int8_refl {n : Nat} {a : List Int} (h : a.length ≤ 1000000000) (hn : 2000000000 ≤ n) : F_law20_row_int8 n (a, a) = some true := by
  rw [F_law20_row_int8_eq, brk_ite, if_neg (by simp)]
  have hL := loop_st (L := fun k i (_ : Unit) => L_law20_row_int8_4 n k (a, a, ((a.length : Nat) : Int), i, ())) (len := a.length) (r := Sum.inr ()) (fun _ => ()) ?_ ?_ n (by omega)
  · rw [hL]; rfl
  · intro k i hi
    show L_law20_row_int8_4 n (k + 1) _ = _
    rw [L_law20_row_int8_4_eq, brk_ite, if_pos (by rw [decide_eq_true_eq]; omega), idx_getD hi 0]
    simp only [Option.bind_some, brk_ite]
    rw [if_neg (by simp), w64 (by omega) (by omega)]
  · intro k
    show L_law20_row_int8_4 n (k + 1) _ = _
    rw [L_law20_row_int8_4_eq, brk_ite, if_neg (by simp)]

theorem ref16_rows_refl {n : Nat} {a : List Int} (h : a.length ≤ 1000000000) (hn : 2000000000 ≤ n) : F_ref16_rows n (a, a) = some true := by
  rw [F_ref16_rows_eq, brk_ite, if_neg (by simp)]
  have hL := loop_st (L := fun k i (_ : Unit) => L_ref16_rows_4 n k (a, a, ((a.length : Nat) : Int), i, ())) (len := a.length) (r := Sum.inr ()) (fun _ => ()) ?_ ?_ n (by omega)
  · rw [hL]; rfl
  · intro k i hi
    show L_ref16_rows_4 n (k + 1) _ = _
    rw [L_ref16_rows_4_eq, brk_ite, if_pos (by rw [decide_eq_true_eq]; omega), idx_getD hi 0]
    simp only [Option.bind_some, brk_ite]
    rw [if_neg (by simp), w64 (by omega) (by omega)]
  · intro k
    show L_ref16_rows_4 n (k + 1) _ = _
    rw [L_ref16_rows_4_eq, brk_ite, if_neg (by simp)]

theorem law20_pair_refl {n : Nat} {p : List Int × List Int} (h : p.1.length ≤ 1000000000 ∧ p.2.length ≤ 1000000000) (hn : 2000000000 ≤ n) : F_law20_pair n (p, p) = some true := by
  rw [F_law20_pair_eq, law20_row_int8_refl h.1 hn]
  simp only [Option.bind_some, brk_ite]
  rw [if_true, law20_row_int8_refl h.2 hn]
  rfl


theorem law20_rows_refl {n : Nat} {a : List (List Int)} (h : ∀ x ∈ a, x.length ≤ 1000000000) (hl : a.length ≤ 1000000000) (hn : 2000000000 ≤ n) : F_law20_rows n (a, a) = some true := by
  rw [F_law20_rows_eq, brk_ite, if_neg (by simp)]
  have hL := loop_st (L := fun k i (_ : Unit) => L_law20_rows_4 n k (a, a, ((a.length : Nat) : Int), i, ())) (len := a.length) (r := Sum.inr ()) (fun _ => ()) ?_ ?_ n (by omega)
  · rw [hL]; rfl
  · intro k i hi
    show L_law20_rows_4 n (k + 1) _ = _
    rw [L_law20_rows_4_eq, brk_ite, if_pos (by rw [decide_eq_true_eq]; omega), idx_some hi]
    simp only [Option.bind_some, brk_ite]
    rw [law20_row_int64_refl (h _ (List.getElem_mem hi)) hn]
    simp only [Option.bind_some, Bool.not_true]
    rw [if_neg (by simp), w64 (by omega) (by omega)]
  · intro k
    show L_law20_rows_4 n (k + 1) _ = _
    rw [L_law20_rows_4_eq, brk_ite, if_neg (by simp)]

theorem law20_same_refl {n : Nat} {a : List (List Int × List Int)} (h : ∀ p ∈ a, p.1.length ≤ 1000000000 ∧ p.2.length ≤ 1000000000) (hl : a.length ≤ 1000000000) (hn : 2000000000 ≤ n) : F_law20_same n (a, a) = some true := by
  rw [F_law20_same_eq, brk_ite, if_neg (by simp)]
  have hL := loop_st (L := fun k i (_ : Unit) => L_law20_same_4 n k (a, a, ((a.length : Nat) : Int), i, ())) (len := a.length) (r := Sum.inr ()) (fun _ => ()) ?_ ?_ n (by omega)
  · rw [hL]; rfl
  · intro k i hi
    show L_law20_same_4 n (k + 1) _ = _
    rw [L_law20_same_4_eq, brk_ite, if_pos (by rw [decide_eq_true_eq]; omega), idx_some hi]
    simp only [Option.bind_some, brk_ite]
    rw [law20_pair_refl (h _ (List.getElem_mem hi)) hn]
    simp only [Option.bind_some, Bool.not_true]
    rw [if_neg (by simp), w64 (by omega) (by omega)]
  · intro k
    show L_law20_same_4 n (k + 1) _ = _
    rw [L_law20_same_4_eq, brk_ite, if_neg (by simp)]

theorem law20_plain {n : Nat} {b : Blo} (hb : LenB b) (hn : 2000000000 ≤ n) : F_law20_plain n b = some b := by
  rw [F_law20_plain_eq, ref16_Of_one (by simp) (by simp) (by simp) (by simp) hb (by simp) (by simp) (by simp) (by omega)]
  rfl

theorem law20_frame {n : Nat} {f : Frm} (h1 : f.2.1.length ≤ 1000000000) (h2 : f.2.2.1.length ≤ 1000000000) (h3 : f.2.2.2.length ≤ 1000000000) : F_law20_frame n f = some f := by
  rw [F_law20_frame_eq, app_own h1 (by omega), app_own h2 (by omega), app_own h3 (by omega)]
  rfl

theorem take_snoc {α : Type} {l : List α} {i : Nat} (h : i < l.length) : l.take i ++ [l[i]] = l.take (i + 1) := by
  rw [List.take_add_one, List.getElem?_eq_getElem h]; rfl
theorem app_take {α : Type} {l : List α} {i b : Nat} (h : i < l.length) (hl : l.length ≤ 1000000000) (hb : b ≤ 1000) : app b (l.take i) [l[i]] = some (l.take (i + 1)) := by
  unfold app
  have : (i + 1) * b ≤ 1000000000 * 1000 := Nat.mul_le_mul (by omega) hb
  have h2 : (l.take i).length = i := by simp; omega
  rw [take_snoc h, if_pos]
  rw [h2]
  exact ⟨by unfold room; simp; omega, by unfold room; simp; omega⟩

theorem law20_past {n : Nat} {a : Pairs} (h : ∀ p ∈ a, p.1.length ≤ 1000000000 ∧ p.2.length ≤ 1000000000) (hl : a.length ≤ 1000000000) (hn : 2000000000 ≤ n) : F_law20_past n a = some a := by
  rw [F_law20_past_eq]
  have hL := loop_st (L := fun k i s => L_law20_past_3 n k (s, a, ((a.length : Nat) : Int), i, ())) (len := a.length) (r := (a, ())) (fun i => a.take i) ?_ ?_ n (by omega)
  · rw [List.take_zero] at hL
    rw [hL]; rfl
  · intro k i hi
    show L_law20_past_3 n (k + 1) _ = _
    have h1 := h _ (List.getElem_mem hi)
    rw [L_law20_past_3_eq, brk_ite, if_pos (by rw [decide_eq_true_eq]; omega), idx_some hi]
    simp only [Option.bind_some]
    rw [app_own h1.1 (by omega), app_own h1.2 (by omega)]
    simp only [Option.bind_some]
    rw [app_take hi hl (by omega), w64 (by omega) (by omega)]
    rfl
  · intro k
    show L_law20_past_3 n (k + 1) _ = _
    rw [L_law20_past_3_eq, brk_ite, if_neg (by simp), List.take_length]

theorem ref16_blocks_refl {n : Nat} {b : Blo} (hb : LenB b) (hn : 2000000000 ≤ n) : F_ref16_blocks n (b, b) = some true := by
  rw [F_ref16_blocks_eq]
  simp only [brk_ite, bne_self_eq_false, Bool.false_eq_true, if_false]
  rw [ref16_rows_refl hb.g1 hn, ref16_rows_refl hb.q hn, ref16_rows_refl hb.k hn, ref16_rows_refl hb.v hn, ref16_rows_refl hb.o hn, ref16_rows_refl hb.g2 hn, ref16_rows_refl hb.m1 hn, ref16_rows_refl hb.m2 hn, ref16_rows_refl hb.m3 hn]
  rfl

theorem ref13_Same_nil {n : Nat} (hn : 1 ≤ n) : F_ref13_Same n (([], []), ([], [])) = some true := by
  obtain ⟨k, rfl⟩ : ∃ k, n = k + 1 := ⟨n - 1, by omega⟩
  rw [F_ref13_Same_eq, brk_ite, if_neg (by decide), brk_ite, if_neg (by decide)]
  simp only
  rw [L_ref13_Same_4_eq, brk_ite, if_neg (by decide)]
  simp only [Option.bind_some, sumk]
  rw [L_ref13_Same_9_eq, brk_ite, if_neg (by decide)]
  rfl

theorem ref16_Same_one {n : Nat} {b : Blo} (hb : LenB b) (hn : 2000000000 ≤ n) : F_ref16_Same n (((0, 0, 0, 0, 0, 0), ([], []), [], 0, [], [], [b], [], [], [], 0), ((0, 0, 0, 0, 0, 0), ([], []), [], 0, [], [], [b], [], [], [], 0)) = some true := by
  rw [F_ref16_Same_eq, brk_ite, if_neg (by simp)]
  simp only
  rw [ref13_Same_nil (by omega)]
  simp only [Option.bind_some, brk_ite, bne_self_eq_false, Bool.false_eq_true, if_false, Bool.not_true]
  obtain ⟨k, hk⟩ : ∃ k, n = k + 1 + 1 := ⟨n - 2, by omega⟩
  have h1 : L_ref16_Same_4 n n ((), (), ((([b] : List Blo).length : Nat) : Int), 0, (0, 0, 0, 0, 0, 0, [], [], [], 0, [], [], [b], [], [], [], 0, ()), (0, 0, 0, 0, 0, 0, [], [], [], 0, [], [], [b], [], [], [], 0, ()), ()) = some (Sum.inr ((), (), (0, 0, 0, 0, 0, 0, [], [], [], 0, [], [], [b], [], [], [], 0, ()), (0, 0, 0, 0, 0, 0, [], [], [], 0, [], [], [b], [], [], [], 0, ()), ())) := by
    have h0 : L_ref16_Same_4 n n = L_ref16_Same_4 n (k + 1 + 1) := by rw [← hk]
    rw [h0, L_ref16_Same_4_eq, brk_ite, if_pos (show decide ((0 : Int) < ((([b] : List Blo).length : Nat) : Int)) = true from rfl), show idx [b] 0 = some b from rfl]
    simp only [Option.bind_some]
    rw [ref16_blocks_refl hb hn]
    simp only [Option.bind_some, brk_ite, Bool.not_true, Bool.false_eq_true, if_false]
    rw [L_ref16_Same_4_eq, brk_ite, if_neg (show ¬ decide (IntKind.wrap IntKind.i64 (0 + 1) < ((([b] : List Blo).length : Nat) : Int)) = true from Bool.false_ne_true)]
  rw [h1]
  simp only [Option.bind_some, sumk]
  rw [ref16_rows_refl (by simp) hn]
  rfl

theorem law20_Given_stays {n : Nat} {b : Blo} {f : Frm} {l : Pairs} (hb : LenB b) (h1 : f.2.1.length ≤ 1000000000) (h2 : f.2.2.1.length ≤ 1000000000) (h3 : f.2.2.2.length ≤ 1000000000) (h : ∀ p ∈ l, p.1.length ≤ 1000000000 ∧ p.2.length ≤ 1000000000) (hl : l.length ≤ 1000000000) (hn : 2000000000 ≤ n) : F_law20_Given_stays n ((b, f, l), b, f, l) = some true := by
  rw [F_law20_Given_stays_eq, law20_plain hb hn]
  simp only [Option.bind_some]
  rw [ref16_Same_one hb hn]
  simp only [Option.bind_some, brk_ite, if_true]
  rw [law20_row_int8_refl h1 hn, law20_row_int8_refl h2 hn, law20_row_int8_refl h3 hn, law20_same_refl h hl hn]
  rfl

theorem dec_all8 {l : List Int} (h : l.all (fun x => decide (-128 ≤ x) && decide (x ≤ 127)) = true) : all8 l := by
  intro x hx
  have := List.all_eq_true.1 h x hx
  simp only [Bool.and_eq_true, decide_eq_true_eq] at this
  exact this
theorem small_okB : OkB b0 := ⟨dec_all8 rfl, dec_all8 rfl, dec_all8 rfl, dec_all8 rfl, dec_all8 rfl, dec_all8 rfl, dec_all8 rfl, dec_all8 rfl, dec_all8 rfl⟩
theorem small_okF : OkF f0 := ⟨dec_all8 rfl, dec_all8 rfl, dec_all8 (by decide +kernel), by decide, by decide⟩

theorem passI_len {b : Blo} {f : Frm} {xs : List (List Int)} {past : Pairs} (h : (passI b f xs past).2.2 = 0) : (passI b f xs past).1.length = xs.length ∧ (passI b f xs past).2.1.length = xs.length := by
  unfold passI at h ⊢
  obtain ⟨G, hG⟩ : ∃ G, G = passGo b f xs past [] := ⟨_, rfl⟩
  rw [← hG] at h ⊢
  match G, hG with
  | .inl e, hG =>
    simp only at h
    exfalso
    have : ∀ (xs : List (List Int)) (all : Pairs) (out : List (List Int)), passGo b f xs all out ≠ .inl 0 := by
      intro xs
      induction xs with
      | nil => intro all out h; cases h
      | cons x xs ih =>
        intro all out h
        simp only [passGo] at h
        split at h
        · rename_i c; simp only [Sum.inl.injEq] at h; exact c h
        · split at h
          · rename_i c; simp only [Sum.inl.injEq] at h; exact c h
          · exact ih _ _ h
    exact this _ _ _ (by rw [← hG, h])
  | .inr r, hG =>
    obtain ⟨h1, h2, _⟩ := passGo_len hG.symm
    simp only
    simp only [List.length_drop, List.length_nil] at h2 ⊢
    omega

theorem lookedI_len {b : Blo} {f : Frm} {x : List Int} {past : Pairs} : (lookedI b f x past).1.length ≤ x.length := by
  unfold lookedI
  simp only
  split
  · simp
  · split
    · simp
    · split
      · simp
      · split
        · simp
        · split
          · simp
          · split
            · simp
            · exact addL_len
theorem runI_len {b : Blo} {f : Frm} {x : List Int} {past : Pairs} : (runI b f x past).1.length ≤ x.length := by
  unfold runI
  simp only
  split
  · simp
  · split
    · simp
    · split
      · simp
      · exact Nat.le_trans addL_len lookedI_len
theorem keysI_len {b : Blo} {f : Frm} {x : List Int} {p : Int} : (keysI b f x p).1.1.length ≤ 1048576 ∧ (keysI b f x p).1.2.length ≤ 1048576 := by
  unfold keysI
  simp only
  split
  · simp
  · split
    · simp
    · split
      · simp
      · split
        · simp
        · exact ⟨turnedI_len, throughI_len⟩

theorem passGo_bnd {b : Blo} {f : Frm} : ∀ {xs : List (List Int)} {all : Pairs} {out : List (List Int)} {r : Pairs × List (List Int)}, passGo b f xs all out = .inr r → (∀ x ∈ xs, x.length ≤ 1000000000) → (∀ p ∈ all, p.1.length ≤ 1000000000 ∧ p.2.length ≤ 1000000000) → (∀ y ∈ out, y.length ≤ 1000000000) →
    (∀ p ∈ r.1, p.1.length ≤ 1000000000 ∧ p.2.length ≤ 1000000000) ∧ (∀ y ∈ r.2, y.length ≤ 1000000000) := by
  intro xs
  induction xs with
  | nil =>
    intro all out r h _ h2 h3
    simp only [passGo, Sum.inr.injEq] at h
    subst h
    exact ⟨h2, h3⟩
  | cons x xs ih =>
    intro all out r h h1 h2 h3
    simp only [passGo] at h
    split at h
    · cases h
    · split at h
      · cases h
      · refine ih h (fun y hy => h1 y (List.mem_cons_of_mem _ hy)) ?_ ?_
        · intro p hp
          rcases List.mem_append.1 hp with hp | hp
          · exact h2 p hp
          · rw [List.mem_singleton.1 hp]
            have := keysI_len (b := b) (f := f) (x := x) (p := (all.length : Int))
            omega
        · intro y hy
          rcases List.mem_append.1 hy with hy | hy
          · exact h3 y hy
          · rw [List.mem_singleton.1 hy]
            exact Nat.le_trans runI_len (h1 x List.mem_cons_self)
theorem passI_bnd {b : Blo} {f : Frm} {xs : List (List Int)} {past : Pairs} (h1 : ∀ x ∈ xs, x.length ≤ 1000000000) (h2 : ∀ p ∈ past, p.1.length ≤ 1000000000 ∧ p.2.length ≤ 1000000000) (hl : past.length + xs.length ≤ 1000000000) :
    (∀ y ∈ (passI b f xs past).1, y.length ≤ 1000000000) ∧ (∀ p ∈ (passI b f xs past).2.1, p.1.length ≤ 1000000000 ∧ p.2.length ≤ 1000000000) ∧ (passI b f xs past).1.length ≤ 1000000000 ∧ (passI b f xs past).2.1.length ≤ 1000000000 := by
  unfold passI
  obtain ⟨G, hG⟩ : ∃ G, G = passGo b f xs past [] := ⟨_, rfl⟩
  rw [← hG]
  match G, hG with
  | .inl e, hG => exact ⟨fun y hy => (by cases hy), fun y hy => (by cases hy), by simp, by simp⟩
  | .inr r, hG =>
    obtain ⟨k1, k2, _⟩ := passGo_len hG.symm
    obtain ⟨k3, k4⟩ := passGo_bnd hG.symm h1 h2 (fun y hy => (by cases hy))
    exact ⟨k4, fun p hp => k3 p (List.mem_of_mem_drop hp), by simp at k2 ⊢; omega, by simp; omega⟩

theorem awake_of {n : Nat} (hn : 2000000000 ≤ n) (hs : F_law20_small n () = some (b0, f0)) (h0 : (passI b0 f0 [[80, -40]] []).2.2 = 0) : F_law20_awake n () = some true := by
  have hx8 : ∀ x ∈ ([[80, -40]] : List (List Int)), all64 x ∧ x.length ≤ 1000000000 := by
    intro x hx
    rw [List.mem_singleton.1 hx]
    refine ⟨?_, by decide⟩
    intro y hy
    simp only [List.mem_cons, List.not_mem_nil, or_false] at hy
    rcases hy with rfl | rfl <;> decide
  have hp : ∀ p ∈ ([] : Pairs), all8 p.1 ∧ all8 p.2 := fun p hp => (by cases hp)
  obtain ⟨k1, k2⟩ := passI_len h0
  obtain ⟨k3, k4, _, _⟩ := passI_bnd (b := b0) (f := f0) (xs := [[80, -40]]) (past := []) (fun x hx => (hx8 x hx).2) (fun p hp => (by cases hp)) (by decide)
  rw [F_law20_awake_eq, hs]
  simp only [Option.bind_some]
  rw [block_Pass small_okB small_okF hx8 hp (by decide) hn, law20_plain small_len hn, law20_frame (by decide) (by decide) (by decide +kernel)]
  simp only [Option.bind_some]
  rw [ref20_Pass small_okB small_okF hx8 hp (by decide) hn]
  obtain ⟨R, hR⟩ : ∃ R, R = passI b0 f0 [[80, -40]] [] := ⟨_, rfl⟩
  rw [← hR] at h0 k1 k2 k3 k4 ⊢
  simp only [Option.bind_some, brk_ite]
  obtain ⟨y, hy⟩ : ∃ y, R.1 = [y] := by
    match h : R.1, k1 with
    | [y], _ => exact ⟨y, rfl⟩
  rw [h0, hy, if_pos (by decide), if_pos (show (((([y] : List (List Int)).length : Nat) : Int) == 1) = true from rfl), show idx [y] 0 = some y from rfl]
  simp only [Option.bind_some]
  rw [law20_row_int64_refl (k3 y (by rw [hy]; simp)) hn]
  simp only [Option.bind_some, if_true]
  rw [law20_same_refl k4 (by rw [k2]; decide) hn]
  rfl

theorem small_zero_of {n : Nat} (hn : 2000000000 ≤ n) (h : (F_block_Pass n (b0, f0, [[80, -40]], [])).map (fun x => x.2.2) = some 0) : (passI b0 f0 [[80, -40]] []).2.2 = 0 := by
  rw [block_Pass small_okB small_okF (by
    intro x hx
    rw [List.mem_singleton.1 hx]
    refine ⟨?_, by decide⟩
    intro y hy
    simp only [List.mem_cons, List.not_mem_nil, or_false] at hy
    rcases hy with rfl | rfl <;> decide) (fun p hp => (by cases hp)) (by decide) hn] at h
  exact Option.some.inj h

theorem law20_awake : F_law20_awake 2000000000 () = some true := awake_of (Nat.le_refl _) law20_small (small_zero_of (Nat.le_refl _) small_pass)

end Go.Am.Pu
