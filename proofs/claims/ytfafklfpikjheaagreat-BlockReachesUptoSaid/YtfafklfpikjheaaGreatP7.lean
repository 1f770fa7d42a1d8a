import Derived.Test.YtfafklfpikjheaaGreatP6
set_option linter.unusedVariables false
set_option linter.unusedSimpArgs false
/- Plain laws: block (layer 20). -/
namespace Go.Am.Pu
open Go Go.Am

abbrev Blo := List Int × List Int × List Int × List Int × List Int × List Int × Int × Int × Int × Int × Int × List Int × List Int × List Int × Int × Int × Int
abbrev Frm := Int × List Int × List Int × List Int
structure OkB (b : Blo) : Prop where
  g1 : all8 b.1
  q : all8 b.2.1
  k : all8 b.2.2.1
  v : all8 b.2.2.2.1
  o : all8 b.2.2.2.2.1
  g2 : all8 b.2.2.2.2.2.1
  m1 : all8 b.2.2.2.2.2.2.2.2.2.2.2.1
  m2 : all8 b.2.2.2.2.2.2.2.2.2.2.2.2.1
  m3 : all8 b.2.2.2.2.2.2.2.2.2.2.2.2.2.1
structure OkF (f : Frm) : Prop where
  cos : all8 f.2.1
  sin : all8 f.2.2.1
  bend : all8 f.2.2.2
  cl : f.2.1.length ≤ 1000000000
  sl : f.2.2.1.length ≤ 1000000000

def angI (f : Frm) (d : Nat) (p : Int) : Int × List Int × List Int × Int :=
  if f.1 < 1 ∨ (d : Int) % f.1 ≠ 0 then (0, [], [], 200) else
  let sz := d / f.1.toNat
  if sz < 2 ∨ sz % 2 ≠ 0 then (0, [], [], 200) else
  if p < 0 ∨ p ≥ ((f.2.1.length / (sz / 2) : Nat) : Int) ∨ p ≥ ((f.2.2.1.length / (sz / 2) : Nat) : Int) then (0, [], [], 201) else
    ((sz : Int), (f.2.1.drop (p.toNat * (sz / 2))).take (sz / 2), (f.2.2.1.drop (p.toNat * (sz / 2))).take (sz / 2), 0)

theorem place_rng {l half p : Nat} (h : p < l / half) : p * half + half ≤ l := by
  have h2 : (p + 1) * half ≤ (l / half) * half := Nat.mul_le_mul_right half h
  have h3 := Nat.div_mul_le_self l half
  rw [Nat.succ_mul] at h2
  omega

theorem block_angles {n : Nat} {f : Frm} {x : List Int} {p : Int} (hx : x.length ≤ 1000000000) (hf : OkF f) : F_block_angles n (f, x, p) = some (angI f x.length p) := by
  rw [F_block_angles_eq]
  unfold angI
  simp only [brk_ite, decide_eq_true_eq, bne_iff_ne, ne_eq, beq_iff_eq]
  by_cases a1 : f.1 < 1
  · rw [if_pos a1, if_pos (.inl a1)]
  rw [if_neg a1, rm_nn (by omega) (by omega)]
  simp only [Option.bind_some]
  by_cases a2 : ¬ (x.length : Int) % f.1 = 0
  · rw [if_pos a2, if_pos (.inr a2)]
  rw [if_neg a2, if_neg (show ¬ (f.1 < 1 ∨ ¬ (x.length : Int) % f.1 = 0) by omega), qt_nn' (by omega) (by omega) (by omega)]
  simp only [Option.bind_some]
  obtain ⟨H, hH⟩ : ∃ H : Nat, f.1 = (H : Int) := ⟨f.1.toNat, by omega⟩
  rw [hH, Int.toNat_natCast]
  obtain ⟨sz, hsz⟩ : ∃ sz, sz = x.length / H := ⟨_, rfl⟩
  have hszl : sz ≤ x.length := by rw [hsz]; exact Nat.div_le_self _ _
  rw [← hsz, show ((x.length : Nat) : Int) / (H : Int) = (sz : Int) by rw [hsz]; simp]
  by_cases a3 : (sz : Int) = 0
  · rw [if_pos a3, if_pos (.inl (by omega))]
  rw [if_neg a3, rm_nn (by omega) (by omega)]
  simp only [Option.bind_some]
  by_cases a4 : ¬ (sz : Int) % 2 = 0
  · rw [if_pos a4, if_pos (.inr (by omega))]
  rw [if_neg a4, if_neg (show ¬ (sz < 2 ∨ ¬ sz % 2 = 0) by omega), qt_nn' (by omega) (by omega) (by omega)]
  simp only [Option.bind_some]
  obtain ⟨half, hh⟩ : ∃ half, half = sz / 2 := ⟨_, rfl⟩
  rw [← hh, show (sz : Int) / 2 = (half : Int) by omega]
  have hcl := hf.cl
  have hsl := hf.sl
  by_cases a5 : p < 0
  · rw [if_pos a5, if_pos (.inl a5)]
  rw [if_neg a5, qt_nn' (by omega) (by omega) (by omega)]
  simp only [Option.bind_some]
  rw [show ((f.2.1.length : Nat) : Int) / (half : Int) = ((f.2.1.length / half : Nat) : Int) by simp]
  by_cases a6 : p ≥ ((f.2.1.length / half : Nat) : Int)
  · rw [if_pos a6, if_pos (.inr (.inl a6))]
  rw [if_neg a6, qt_nn' (by omega) (by omega) (by omega)]
  simp only [Option.bind_some]
  rw [show ((f.2.2.1.length : Nat) : Int) / (half : Int) = ((f.2.2.1.length / half : Nat) : Int) by simp]
  by_cases a7 : p ≥ ((f.2.2.1.length / half : Nat) : Int)
  · rw [if_pos a7, if_pos (.inr (.inr a7))]
  rw [if_neg a7, if_neg (by omega)]
  obtain ⟨P, rfl⟩ : ∃ P : Nat, p = (P : Int) := ⟨p.toNat, by omega⟩
  rw [Int.toNat_natCast]
  have r1 := place_rng (l := f.2.1.length) (half := half) (p := P) (by omega)
  have r2 := place_rng (l := f.2.2.1.length) (half := half) (p := P) (by omega)
  have hPl : P ≤ f.2.1.length := by have := Nat.div_le_self f.2.1.length half; omega
  have e1 : (P : Int) * (half : Int) = ((P * half : Nat) : Int) := by simp
  have e2 : ((P : Int) + 1) * (half : Int) = ((P * half : Nat) : Int) + (half : Int) := by rw [Int.add_mul, e1]; simp
  rw [w64 (x := (P : Int) + 1) (by omega) (by omega), e1, e2, w64 (by omega) (by omega), w64 (by omega) (by omega), slc_take (by omega)]
  simp only [Option.bind_some]
  rw [slc_take (by omega)]
  rfl

theorem ref20_angles {n : Nat} {f : Frm} {d : Nat} {p : Int} (hx : d ≤ 1000000000) (hf : OkF f) : F_ref20_angles n (f, (d : Int), p) = some (angI f d p) := by
  rw [F_ref20_angles_eq]
  unfold angI
  simp only [brk_ite, decide_eq_true_eq, bne_iff_ne, ne_eq]
  by_cases a1 : f.1 < 1
  · rw [if_pos a1, if_pos (.inl a1)]
  rw [if_neg a1, rm_nn (by omega) (by omega)]
  simp only [Option.bind_some]
  by_cases a2 : ¬ (d : Int) % f.1 = 0
  · rw [if_pos a2, if_pos (.inr a2)]
  rw [if_neg a2, if_neg (show ¬ (f.1 < 1 ∨ ¬ (d : Int) % f.1 = 0) by omega), qt_nn' (by omega) (by omega) (by omega)]
  simp only [Option.bind_some]
  obtain ⟨H, hH⟩ : ∃ H : Nat, f.1 = (H : Int) := ⟨f.1.toNat, by omega⟩
  rw [hH, Int.toNat_natCast]
  obtain ⟨sz, hsz⟩ : ∃ sz, sz = d / H := ⟨_, rfl⟩
  have hszl : sz ≤ d := by rw [hsz]; exact Nat.div_le_self _ _
  rw [← hsz, show ((d : Nat) : Int) / (H : Int) = (sz : Int) by rw [hsz]; simp]
  by_cases a3 : (sz : Int) < 2
  · rw [if_pos a3, if_pos (.inl (by omega))]
  rw [if_neg a3, rm_nn (by omega) (by omega)]
  simp only [Option.bind_some]
  by_cases a4 : ¬ (sz : Int) % 2 = 0
  · rw [if_pos a4, if_pos (.inr (by omega))]
  rw [if_neg a4, if_neg (show ¬ (sz < 2 ∨ ¬ sz % 2 = 0) by omega), qt_nn' (by omega) (by omega) (by omega)]
  simp only [Option.bind_some]
  obtain ⟨half, hh⟩ : ∃ half, half = sz / 2 := ⟨_, rfl⟩
  rw [← hh, show (sz : Int) / 2 = (half : Int) by omega]
  have hcl := hf.cl
  have hsl := hf.sl
  by_cases a5 : p < 0
  · rw [if_pos a5, if_pos (.inl a5)]
  rw [if_neg a5, qt_nn' (by omega) (by omega) (by omega)]
  simp only [Option.bind_some]
  rw [show ((f.2.1.length : Nat) : Int) / (half : Int) = ((f.2.1.length / half : Nat) : Int) by simp]
  by_cases a6 : p ≥ ((f.2.1.length / half : Nat) : Int)
  · rw [if_pos a6, if_pos (.inr (.inl a6))]
  rw [if_neg a6, qt_nn' (by omega) (by omega) (by omega)]
  simp only [Option.bind_some]
  rw [show ((f.2.2.1.length : Nat) : Int) / (half : Int) = ((f.2.2.1.length / half : Nat) : Int) by simp]
  by_cases a7 : p ≥ ((f.2.2.1.length / half : Nat) : Int)
  · rw [if_pos a7, if_pos (.inr (.inr a7))]
  rw [if_neg a7, if_neg (by omega)]
  obtain ⟨P, rfl⟩ : ∃ P : Nat, p = (P : Int) := ⟨p.toNat, by omega⟩
  rw [Int.toNat_natCast]
  have r1 := place_rng (l := f.2.1.length) (half := half) (p := P) (by omega)
  have r2 := place_rng (l := f.2.2.1.length) (half := half) (p := P) (by omega)
  have e1 : (P : Int) * (half : Int) = ((P * half : Nat) : Int) := by simp
  rw [e1, w64 (x := ((P * half : Nat) : Int)) (by omega) (by omega), w64 (x := ((P * half : Nat) : Int) + (half : Int)) (by omega) (by omega), slc_take (by omega)]
  simp only [Option.bind_some]
  rw [slc_take (by omega)]
  simp only [Option.bind_some]
  rw [w64 (by omega) (by omega), show 2 * (half : Int) = (sz : Int) by omega]

theorem angI_ok {f : Frm} {d : Nat} {p : Int} (hf : OkF f) (hd : d ≤ 1000000000) : all8 (angI f d p).2.1 ∧ all8 (angI f d p).2.2.1 ∧ (angI f d p).1 ≤ 9223372036854775807 := by
  have hnil : all8 [] := fun x hx => (by cases hx)
  unfold angI
  split
  · exact ⟨hnil, hnil, by simp⟩
  · simp only
    split
    · exact ⟨hnil, hnil, by simp⟩
    · split
      · exact ⟨hnil, hnil, by simp⟩
      · refine ⟨hf.cos.sub _ _, hf.sin.sub _ _, ?_⟩
        have := Nat.div_le_self d f.1.toNat
        show ((d / f.1.toNat : Nat) : Int) ≤ _
        omega

theorem block_through {n : Nat} {w h : List Int} {s : Int} (hw : all8 w) (hh : all8 h) (hl : h.length ≤ 1000000000) (hn : 2000000000 ≤ n) : F_block_through n (w, h, s) = some (throughI w h s) := by
  rw [F_block_through_eq, vec_Times hw hh hl hn]
  unfold throughI
  simp only [Option.bind_some, brk_ite, bne_iff_ne]
  split
  · rfl
  · rw [vec_Shrink (timesI_all hw hh) hn]; rfl
theorem ref20_through {n : Nat} {w h : List Int} {s : Int} (hw : all8 w) (hh : all8 h) (hn : 2000000000 ≤ n) : F_ref20_through n (w, h, s) = some (throughI w h s) := by
  rw [F_ref20_through_eq, ref08_Times hw hh hn]
  unfold throughI
  simp only [Option.bind_some, brk_ite, bne_iff_ne]
  split
  · rfl
  · rw [ref08_Shrink (timesI_all hw hh) hn]; rfl

theorem rowI_all {l gain : List Int} : all7 (rowI l gain).1 := by
  unfold rowI
  split
  · exact fun x hx => (by cases hx)
  · split
    · exact fun x hx => (by cases hx)
    · intro x hx
      obtain ⟨i, _, rfl⟩ := tab_mem hx
      exact narrowI_rng _
theorem rowI_len {l gain : List Int} : (rowI l gain).1.length ≤ 64 := by
  unfold rowI
  split
  · simp
  · split
    · simp
    · rename_i h
      have := rootI_ok (l := l) (by omega)
      simp; omega

theorem turnI_all {x cos sin : List Int} {size : Int} : all7 (turnI x size cos sin).1 := by
  unfold turnI
  split
  · exact fun x hx => (by cases hx)
  · split
    · exact fun x hx => (by cases hx)
    · intro x hx
      obtain ⟨i, _, rfl⟩ := tab_mem hx
      unfold ropeG
      split
      · exact narrowI_rng _
      · exact narrowI_rng _
theorem turnI_len {x cos sin : List Int} {size : Int} : (turnI x size cos sin).1.length ≤ x.length := by
  unfold turnI
  split
  · simp
  · split
    · simp
    · simp

/-- through a matrix, and turned -/
def turnedI (w h : List Int) (s size : Int) (cos sin : List Int) : List Int × Int := if (throughI w h s).2 ≠ 0 then ([], (throughI w h s).2) else turnI (throughI w h s).1 size cos sin
theorem turnedI_all {w h : List Int} {s size : Int} {cos sin : List Int} : all7 (turnedI w h s size cos sin).1 := by
  unfold turnedI
  split
  · exact fun x hx => (by cases hx)
  · exact turnI_all
theorem turnedI_len {w h : List Int} {s size : Int} {cos sin : List Int} : (turnedI w h s size cos sin).1.length ≤ 1048576 := by
  unfold turnedI
  split
  · simp
  · exact Nat.le_trans turnI_len throughI_len
theorem ref20_turned {n : Nat} {w h : List Int} {s size : Int} {cos sin : List Int} (hw : all8 w) (hh : all8 h) (hc : all8 cos) (hs : all8 sin) (hz : size ≤ 9223372036854775807) (hn : 2000000000 ≤ n) : F_ref20_turned n (w, h, s, size, cos, sin) = some (turnedI w h s size cos sin) := by
  rw [F_ref20_turned_eq, ref20_through hw hh hn]
  unfold turnedI
  simp only [Option.bind_some, brk_ite, bne_iff_ne]
  split
  · rfl
  · have := throughI_len (w := w) (h := h) (s := s)
    rw [ref10_Turn throughI_all.all8 hc hs hz (by omega) hn]; rfl

noncomputable def keysI (b : Blo) (f : Frm) (x : List Int) (p : Int) : (List Int × List Int) × Int :=
  let a := angI f x.length p
  if a.2.2.2 ≠ 0 then (([], []), a.2.2.2) else
  let h := rowI x b.1
  if h.2 ≠ 0 then (([], []), h.2) else
  let k := turnedI b.2.2.1 h.1 b.2.2.2.2.2.2.2.1 a.1 a.2.1 a.2.2.1
  if k.2 ≠ 0 then (([], []), k.2) else
  let v := throughI b.2.2.2.1 h.1 b.2.2.2.2.2.2.2.2.1
  if v.2 ≠ 0 then (([], []), v.2) else ((k.1, v.1), 0)

theorem block_Keys {n : Nat} {b : Blo} {f : Frm} {x : List Int} {p : Int} (hb : OkB b) (hf : OkF f) (hx : x.length ≤ 1000000000) (hn : 2000000000 ≤ n) : F_block_Keys n (b, f, x, p) = some (keysI b f x p) := by
  rw [F_block_Keys_eq, block_angles hx hf]
  obtain ⟨c1, c2, c3⟩ := angI_ok (p := p) hf hx
  unfold keysI turnedI
  simp only [Option.bind_some, brk_ite, bne_iff_ne]
  split
  · rfl
  · rw [norm_Row hb.g1 hn]
    have l1 := rowI_len (l := x) (gain := b.1)
    simp only [Option.bind_some]
    split
    · rfl
    · rw [block_through hb.k rowI_all.all8 (by omega) hn]
      have l2 := throughI_len (w := b.2.2.1) (h := (rowI x b.1).1) (s := b.2.2.2.2.2.2.2.1)
      simp only [Option.bind_some]
      by_cases h1 : (throughI b.2.2.1 (rowI x b.1).1 b.2.2.2.2.2.2.2.1).2 ≠ 0
      · rw [if_pos h1, if_pos h1, if_pos h1]
      · rw [if_neg h1, if_neg h1, rope_Turn throughI_all.all8 c1 c2 c3 (by omega) hn]
        simp only [Option.bind_some]
        split
        · rfl
        · rw [block_through hb.v rowI_all.all8 (by omega) hn]
          simp only [Option.bind_some]
          split
          · rfl
          · rfl

theorem ref20_Keys {n : Nat} {b : Blo} {f : Frm} {x : List Int} {p : Int} (hb : OkB b) (hf : OkF f) (hx : x.length ≤ 1000000000) (hn : 2000000000 ≤ n) : F_ref20_Keys n (b, f, x, p) = some (keysI b f x p) := by
  rw [F_ref20_Keys_eq, ref20_angles hx hf]
  obtain ⟨c1, c2, c3⟩ := angI_ok (p := p) hf hx
  unfold keysI
  simp only [Option.bind_some, brk_ite, bne_iff_ne]
  split
  · rfl
  · rw [ref09_Row hb.g1 hn]
    simp only [Option.bind_some]
    split
    · rfl
    · rw [ref20_turned hb.k rowI_all.all8 c1 c2 c3 hn]
      simp only [Option.bind_some]
      split
      · rfl
      · rw [ref20_through hb.v rowI_all.all8 hn]
        simp only [Option.bind_some]
        split
        · rfl
        · rfl

theorem addL_all {a b : List Int} : all64 (addL a b).1 := by
  unfold addL
  split
  · exact fun x hx => (by cases hx)
  · split
    · exact fun x hx => (by cases hx)
    · intro x hx
      obtain ⟨i, _, rfl⟩ := tab_mem hx
      unfold sumAt addI
      split
      · rename_i h; exact h
      · exact ⟨by decide, by decide⟩
theorem addL_len {a b : List Int} : (addL a b).1.length ≤ a.length := by
  unfold addL
  split
  · simp
  · split
    · simp
    · simp

/-- a row behind its look back -/
noncomputable def lookedI (b : Blo) (f : Frm) (x : List Int) (past : Pairs) : List Int × Int :=
  let a := angI f x.length ((past.length : Int) - 1)
  if a.2.2.2 ≠ 0 then ([], a.2.2.2) else
  let h := rowI x b.1
  if h.2 ≠ 0 then ([], h.2) else
  let q := turnedI b.2.1 h.1 b.2.2.2.2.2.2.1 a.1 a.2.1 a.2.2.1
  if q.2 ≠ 0 then ([], q.2) else
  let o := lookI q.1 f.1 past b.2.2.2.2.2.2.2.2.2.2.1
  if o.2 ≠ 0 then ([], o.2) else
  let y := timesI b.2.2.2.2.1 (x.length : Int) o.1
  if y.2 ≠ 0 then ([], y.2) else
  let z := scaleI y.1 b.2.2.2.2.2.2.2.2.2.1
  if z.2 ≠ 0 then ([], z.2) else addL x z.1
noncomputable def runI (b : Blo) (f : Frm) (x : List Int) (past : Pairs) : List Int × Int :=
  let y := lookedI b f x past
  if y.2 ≠ 0 then ([], y.2) else
  let g := rowI y.1 b.2.2.2.2.2.1
  if g.2 ≠ 0 then ([], g.2) else
  let d := middleI b.2.2.2.2.2.2.2.2.2.2.2 f.2.2.2 g.1
  if d.2 ≠ 0 then ([], d.2) else addL y.1 d.1

theorem lookedI_all {b : Blo} {f : Frm} {x : List Int} {past : Pairs} : all64 (lookedI b f x past).1 := by
  have hnil : all64 [] := fun x hx => (by cases hx)
  unfold lookedI
  simp only
  split
  · exact hnil
  · split
    · exact hnil
    · split
      · exact hnil
      · split
        · exact hnil
        · split
          · exact hnil
          · split
            · exact hnil
            · exact addL_all
theorem runI_all {b : Blo} {f : Frm} {x : List Int} {past : Pairs} : all64 (runI b f x past).1 := by
  have hnil : all64 [] := fun x hx => (by cases hx)
  unfold runI
  simp only
  split
  · exact hnil
  · split
    · exact hnil
    · split
      · exact hnil
      · exact addL_all

theorem block_looked {n : Nat} {b : Blo} {f : Frm} {x : List Int} {past : Pairs} (hb : OkB b) (hf : OkF f) (hx8 : all64 x) (hx : x.length ≤ 1000000000) (hp : ∀ p ∈ past, all8 p.1 ∧ all8 p.2) (hpl : past.length ≤ 1000000000) (hn : 2000000000 ≤ n) : F_block_looked n (b, f, x, past) = some (lookedI b f x past) := by
  rw [F_block_looked_eq, w64 (by omega) (by omega), block_angles hx hf]
  obtain ⟨c1, c2, c3⟩ := angI_ok (p := (past.length : Int) - 1) hf hx
  unfold lookedI turnedI
  simp only [Option.bind_some, brk_ite, bne_iff_ne]
  split
  · rfl
  · rw [norm_Row hb.g1 hn]
    have l1 := rowI_len (l := x) (gain := b.1)
    simp only [Option.bind_some]
    split
    · rfl
    · rw [block_through hb.q rowI_all.all8 (by omega) hn]
      have l2 := throughI_len (w := b.2.1) (h := (rowI x b.1).1) (s := b.2.2.2.2.2.2.1)
      simp only [Option.bind_some]
      by_cases h1 : (throughI b.2.1 (rowI x b.1).1 b.2.2.2.2.2.2.1).2 ≠ 0
      · rw [if_pos h1, if_pos h1, if_pos h1]
      · rw [if_neg h1, if_neg h1, rope_Turn throughI_all.all8 c1 c2 c3 (by omega) hn]
        simp only [Option.bind_some]
        split
        · rfl
        · have l3 := turnI_len (x := (throughI b.2.1 (rowI x b.1).1 b.2.2.2.2.2.2.1).1) (cos := (angI f x.length ((past.length : Int) - 1)).2.1) (sin := (angI f x.length ((past.length : Int) - 1)).2.2.1) (size := (angI f x.length ((past.length : Int) - 1)).1)
          rw [attend_Look turnI_all.all8 hp (by omega) hpl hn]
          simp only [Option.bind_some]
          split
          · rfl
          · have l4 := lookI_len (q := (turnI (throughI b.2.1 (rowI x b.1).1 b.2.2.2.2.2.2.1).1 (angI f x.length ((past.length : Int) - 1)).1 (angI f x.length ((past.length : Int) - 1)).2.1 (angI f x.length ((past.length : Int) - 1)).2.2.1).1) (heads := f.1) (past := past) (s := b.2.2.2.2.2.2.2.2.2.2.1)
            rw [vec_Times hb.o lookI_all (by omega) hn]
            simp only [Option.bind_some]
            split
            · rfl
            · rw [vec_Scale (timesI_all hb.o lookI_all) hn]
              simp only [Option.bind_some]
              split
              · rfl
              · rw [vec_Add hx8 (scaleI_all (timesI_all hb.o lookI_all)) hn]; rfl

theorem block_Run {n : Nat} {b : Blo} {f : Frm} {x : List Int} {past : Pairs} (hb : OkB b) (hf : OkF f) (hx8 : all64 x) (hx : x.length ≤ 1000000000) (hp : ∀ p ∈ past, all8 p.1 ∧ all8 p.2) (hpl : past.length ≤ 1000000000) (hn : 2000000000 ≤ n) : F_block_Run n (b, f, x, past) = some (runI b f x past) := by
  rw [F_block_Run_eq, block_looked hb hf hx8 hx hp hpl hn]
  unfold runI
  simp only [Option.bind_some, brk_ite, bne_iff_ne]
  split
  · rfl
  · rw [norm_Row hb.g2 hn]
    have l1 := rowI_len (l := (lookedI b f x past).1) (gain := b.2.2.2.2.2.1)
    simp only [Option.bind_some]
    split
    · rfl
    · rw [act_Middle hb.m1 hb.m2 hb.m3 hf.bend rowI_all.all8 (by omega) hn]
      simp only [Option.bind_some]
      split
      · rfl
      · rw [vec_Add lookedI_all (middleI_all hb.m3) hn]; rfl

theorem ref20_Run {n : Nat} {b : Blo} {f : Frm} {x : List Int} {past : Pairs} (hb : OkB b) (hf : OkF f) (hx8 : all64 x) (hx : x.length ≤ 1000000000) (hp : ∀ p ∈ past, all8 p.1 ∧ all8 p.2) (hpl : past.length ≤ 1000000000) (hn : 2000000000 ≤ n) : F_ref20_Run n (b, f, x, past) = some (runI b f x past) := by
  obtain ⟨c1, c2, c3⟩ := angI_ok (p := (past.length : Int) - 1) hf hx
  obtain ⟨L, hL⟩ : ∃ L, L = lookedI b f x past := ⟨_, rfl⟩
  have hrun : runI b f x past = if L.2 ≠ 0 then ([], L.2) else if (rowI L.1 b.2.2.2.2.2.1).2 ≠ 0 then ([], (rowI L.1 b.2.2.2.2.2.1).2) else
      if (middleI b.2.2.2.2.2.2.2.2.2.2.2 f.2.2.2 (rowI L.1 b.2.2.2.2.2.1).1).2 ≠ 0 then ([], (middleI b.2.2.2.2.2.2.2.2.2.2.2 f.2.2.2 (rowI L.1 b.2.2.2.2.2.1).1).2) else addL L.1 (middleI b.2.2.2.2.2.2.2.2.2.2.2 f.2.2.2 (rowI L.1 b.2.2.2.2.2.1).1).1 := by
    unfold runI; rw [← hL]
  rw [hrun]
  clear hrun
  unfold lookedI at hL
  rw [F_ref20_Run_eq, w64 (by omega) (by omega), ref20_angles hx hf]
  simp only [Option.bind_some, brk_ite, bne_iff_ne] at hL ⊢
  by_cases d1 : (angI f x.length ((past.length : Int) - 1)).2.2.2 ≠ 0
  · rw [if_pos d1] at hL ⊢
    rw [hL, if_pos d1]
  rw [if_neg d1] at hL ⊢
  rw [ref09_Row hb.g1 hn]
  simp only [Option.bind_some]
  by_cases d2 : (rowI x b.1).2 ≠ 0
  · rw [if_pos d2] at hL ⊢
    rw [hL, if_pos d2]
  rw [if_neg d2] at hL ⊢
  rw [ref20_turned hb.q rowI_all.all8 c1 c2 c3 hn]
  simp only [Option.bind_some]
  obtain ⟨T, hT⟩ : ∃ T, T = turnedI b.2.1 (rowI x b.1).1 b.2.2.2.2.2.2.1 (angI f x.length ((past.length : Int) - 1)).1 (angI f x.length ((past.length : Int) - 1)).2.1 (angI f x.length ((past.length : Int) - 1)).2.2.1 := ⟨_, rfl⟩
  have hT8 : all8 T.1 := by rw [hT]; exact turnedI_all.all8
  have hTl : T.1.length ≤ 1048576 := by rw [hT]; exact turnedI_len
  rw [← hT] at hL ⊢
  by_cases d3 : T.2 ≠ 0
  · rw [if_pos d3] at hL ⊢
    rw [hL, if_pos d3]
  rw [if_neg d3] at hL ⊢
  rw [ref19_Look hT8 hp (by omega) hpl hn]
  simp only [Option.bind_some]
  obtain ⟨O, hO⟩ : ∃ O, O = lookI T.1 f.1 past b.2.2.2.2.2.2.2.2.2.2.1 := ⟨_, rfl⟩
  have hO8 : all8 O.1 := by rw [hO]; exact lookI_all
  rw [← hO] at hL ⊢
  by_cases d4 : O.2 ≠ 0
  · rw [if_pos d4] at hL ⊢
    rw [hL, if_pos d4]
  rw [if_neg d4] at hL ⊢
  rw [ref08_Times hb.o hO8 hn]
  simp only [Option.bind_some]
  obtain ⟨Y, hY⟩ : ∃ Y, Y = timesI b.2.2.2.2.1 ((x.length : Nat) : Int) O.1 := ⟨_, rfl⟩
  have hY8 : all64 Y.1 := by rw [hY]; exact timesI_all hb.o hO8
  rw [← hY] at hL ⊢
  by_cases d5 : Y.2 ≠ 0
  · rw [if_pos d5] at hL ⊢
    rw [hL, if_pos d5]
  rw [if_neg d5] at hL ⊢
  rw [ref08_Scale hY8 hn]
  simp only [Option.bind_some]
  by_cases d6 : (scaleI Y.1 b.2.2.2.2.2.2.2.2.2.1).2 ≠ 0
  · rw [if_pos d6] at hL ⊢
    rw [hL, if_pos d6]
  rw [if_neg d6] at hL ⊢
  rw [ref08_Add hx8 (scaleI_all hY8) hn, ← hL]
  have hL8 : all64 L.1 := by rw [hL]; exact addL_all
  simp only [Option.bind_some]
  by_cases d7 : L.2 ≠ 0
  · rw [if_pos d7, if_pos d7]
  rw [if_neg d7, if_neg d7, ref09_Row hb.g2 hn]
  simp only [Option.bind_some]
  by_cases d8 : (rowI L.1 b.2.2.2.2.2.1).2 ≠ 0
  · rw [if_pos d8, if_pos d8]
  rw [if_neg d8, if_neg d8, ref12_Run hb.m1 hb.m2 hb.m3 hf.bend rowI_all.all8 hn]
  simp only [Option.bind_some]
  by_cases d9 : (middleI b.2.2.2.2.2.2.2.2.2.2.2 f.2.2.2 (rowI L.1 b.2.2.2.2.2.1).1).2 ≠ 0
  · rw [if_pos d9, if_pos d9]
  rw [if_neg d9, if_neg d9, ref08_Add hL8 (middleI_all hb.m3) hn]
  rfl

end Go.Am.Pu
