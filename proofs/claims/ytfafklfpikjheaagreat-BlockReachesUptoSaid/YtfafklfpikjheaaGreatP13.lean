import Derived.Test.YtfafklfpikjheaaGreatP12
set_option linter.unusedVariables false
set_option linter.unusedSimpArgs false
/- Plain laws: no number leaves its room (the reach of a block). -/
namespace Go.Am.Pu
open Go Go.Am

theorem near_mono {x y d : Int} (hd : 1 ≤ d) (h : x ≤ y) : nearI x d ≤ nearI y d := by
  have hx := Int.mul_ediv_add_emod x d
  have hy := Int.mul_ediv_add_emod y d
  have rx := Int.emod_nonneg x (show d ≠ 0 by omega)
  have rx2 := Int.emod_lt_of_pos x (show 0 < d by omega)
  have ry := Int.emod_nonneg y (show d ≠ 0 by omega)
  have ry2 := Int.emod_lt_of_pos y (show 0 < d by omega)
  have hq := Int.ediv_le_ediv (show 0 < d by omega) h
  unfold nearI
  by_cases he : x / d = y / d
  · rw [he] at hx ⊢
    split <;> split <;> omega
  · split <;> split <;> omega
theorem near_neg {x d : Int} (hd : 1 ≤ d) : nearI (-x) d = -nearI x d := by
  have hx := Int.mul_ediv_add_emod x d
  have rx := Int.emod_nonneg x (show d ≠ 0 by omega)
  have rx2 := Int.emod_lt_of_pos x (show 0 < d by omega)
  by_cases h0 : x % d = 0
  · obtain ⟨e1, e2⟩ : (-x) / d = -(x / d) ∧ (-x) % d = 0 := (Int.ediv_emod_unique (by omega)).2 ⟨by rw [Int.mul_neg]; omega, by omega, by omega⟩
    unfold nearI
    rw [e1, e2, h0]
    split <;> split <;> omega
  · obtain ⟨e1, e2⟩ : (-x) / d = -(x / d) - 1 ∧ (-x) % d = d - x % d := (Int.ediv_emod_unique (by omega)).2 ⟨by rw [Int.mul_sub, Int.mul_neg]; omega, by omega, by omega⟩
    unfold nearI
    rw [e1, e2]
    split <;> split <;> omega
theorem near_zero {d : Int} (hd : 1 ≤ d) : nearI 0 d = 0 := by
  unfold nearI
  rw [Int.zero_ediv, Int.zero_emod, if_neg (by omega)]
theorem round_near {x s : Int} (h1 : 0 ≤ s) (h2 : s ≤ 62) : roundI x s = (nearI x (2 ^ s.toNat), 0) := by
  unfold roundI
  rw [if_neg (by omega)]
theorem round_abs {x X s : Int} (h1 : -X ≤ x) (h2 : x ≤ X) (hs : 0 ≤ s) (hs2 : s ≤ 62) : -(roundI X s).1 ≤ (roundI x s).1 ∧ (roundI x s).1 ≤ (roundI X s).1 := by
  have hd := (pow_rng (s := s.toNat) (by omega)).1
  rw [round_near hs hs2, round_near hs hs2]
  have a := near_mono hd h1
  have b := near_mono hd h2
  rw [near_neg hd] at a
  exact ⟨a, b⟩
theorem round_nonneg {x s : Int} (h : 0 ≤ x) (hs : 0 ≤ s) (hs2 : s ≤ 62) : 0 ≤ (roundI x s).1 := by
  have hd := (pow_rng (s := s.toNat) (by omega)).1
  rw [round_near hs hs2]
  have := near_mono hd h
  rw [near_zero hd] at this
  exact this
theorem round_le {x s : Int} (h : 0 ≤ x) (hs : 0 ≤ s) (hs2 : s ≤ 62) : (roundI x s).1 ≤ x := by
  have hd := (pow_rng (s := s.toNat) (by omega)).1
  obtain ⟨d, hdd⟩ : ∃ d : Int, d = 2 ^ s.toNat := ⟨_, rfl⟩
  rw [round_near hs hs2]
  rw [← hdd] at hd ⊢
  have hx := Int.mul_ediv_add_emod x d
  have rx := Int.emod_nonneg x (show d ≠ 0 by omega)
  have rx2 := Int.emod_lt_of_pos x (show 0 < d by omega)
  have hq := (ediv_rng hd).1 h
  show nearI x d ≤ x
  unfold nearI
  split
  · rename_i c
    by_cases hq0 : x / d = x
    · exfalso
      by_cases hx0 : x = 0
      · rw [hx0] at c rx; simp at c; omega
      · have h1 : d = 1 := by
          have : d * (x / d) ≤ x := by omega
          rw [hq0] at this
          by_cases h2 : d ≤ 1
          · omega
          · exfalso
            have := Int.mul_le_mul_of_nonneg_right (show (2 : Int) ≤ d by omega) h
            omega
        omega
    · omega
  · omega

def absI (x : Int) : Int := if x < 0 then -x else x
theorem absI_rng (x : Int) : 0 ≤ absI x ∧ -absI x ≤ x ∧ x ≤ absI x := by
  unfold absI; split <;> omega
def sizeI (l : List Int) : Int := sumN (fun i => absI (l.getD i 0)) l.length
theorem sumN_abs {g h : Nat → Int} : ∀ n, (∀ i, i < n → -(h i) ≤ g i ∧ g i ≤ h i) → -(sumN h n) ≤ sumN g n ∧ sumN g n ≤ sumN h n
  | 0, _ => by simp [sumN]
  | n + 1, hh => by
    have h1 := sumN_abs n fun i hi => hh i (by omega)
    have h2 := hh n (by omega)
    simp only [sumN]
    omega
theorem sumN_mul {h : Nat → Int} (c : Int) : ∀ n, sumN (fun i => c * h i) n = c * sumN h n
  | 0 => by simp [sumN]
  | n + 1 => by simp only [sumN]; rw [sumN_mul c n, Int.mul_add]
theorem all7.at {l : List Int} (h : all7 l) (i : Nat) : -127 ≤ l.getD i 0 ∧ l.getD i 0 ≤ 127 := by
  by_cases hi : i < l.length
  · rw [getD_lt hi]; exact h _ (List.getElem_mem hi)
  · rw [List.getD_eq_getElem?_getD, List.getElem?_eq_none (by omega)]; decide
theorem mul_abs {a b : Int} (hb : -127 ≤ b ∧ b ≤ 127) : -(127 * absI a) ≤ a * b ∧ a * b ≤ 127 * absI a := by
  have h := absI_rng a
  have := mul_rng (a := a) (b := b) (m := absI a) (k := 127) ⟨h.2.1, h.2.2⟩ hb
  omega
theorem dot_size {r o : List Int} (ho : all7 o) : -(127 * sizeI r) ≤ dotI r o ∧ dotI r o ≤ 127 * sizeI r := by
  unfold dotI sizeI
  rw [← sumN_mul]
  exact sumN_abs _ fun i _ => mul_abs (ho.at i)
theorem sizeI_rng {l : List Int} (h : all8 l) : 0 ≤ sizeI l ∧ sizeI l ≤ l.length * 128 := by
  unfold sizeI
  refine sumN_rng' _ fun j _ => ?_
  have h1 := h.at j
  unfold absI
  split <;> omega

theorem timesI_ok {w x : List Int} {c : Nat} (hw : w.length ≤ 1048576) (hc : 1 ≤ c) (hm : w.length % c = 0) (hx : x.length = c) : timesI w (c : Int) x = (timesL w c x, 0) := by
  have h0 : matI w (c : Int) = 0 := by
    unfold matI
    rw [if_neg (by omega), if_neg (by omega)]
  unfold timesI
  rw [h0, if_neg (by simp), if_neg (by omega), Int.toNat_natCast]
theorem scaleI_ok {l : List Int} {s : Int} (hl : l.length ≤ 1048576) (hs : 0 ≤ s) (hs2 : s ≤ 62) : scaleI l s = (l.map (fun x => (roundI x s).1), 0) := by
  unfold scaleI fit1
  rw [if_neg (show ¬ l.length > 1048576 by omega), if_neg (by simp), if_neg (by omega)]
theorem timesL_len {w x : List Int} {c : Nat} : (timesL w c x).length = w.length / c := by simp [timesL]
theorem throughI_ok {w h : List Int} {s : Int} {r : Nat} (hw : w.length = r * h.length) (hb : r * h.length ≤ 1048576) (hc : 1 ≤ h.length) (hs : 0 ≤ s) (hs2 : s ≤ 62) : (throughI w h s).2 = 0 ∧ (throughI w h s).1.length = r := by
  unfold throughI
  have hd : w.length / h.length = r := by rw [hw]; exact Nat.mul_div_cancel _ (by omega)
  have hr : r ≤ 1048576 := by
    have := Nat.le_mul_of_pos_right r (show 0 < h.length by omega)
    omega
  rw [timesI_ok (by omega) hc (by rw [hw]; exact Nat.mul_mod_left _ _) rfl]
  simp only [ne_eq, not_true, if_false]
  unfold shrinkI
  rw [scaleI_ok (by rw [timesL_len, hd]; exact hr) hs hs2]
  exact ⟨rfl, by simp [timesL_len, hd]⟩

theorem rowI_ok {x gain : List Int} (hg : gain.length = x.length) (h1 : 1 ≤ x.length) (h2 : x.length ≤ 64) (hx : ∀ y ∈ x, -268435456 ≤ y ∧ y ≤ 268435456) : (rowI x gain).2 = 0 ∧ (rowI x gain).1.length = x.length := by
  have hr : (rootI x).2 = 0 := by
    unfold rootI
    rw [if_neg (by omega), if_neg]
    rintro ⟨i, hi, hf⟩
    unfold farAt at hf
    rw [getD_lt hi] at hf
    have := hx _ (List.getElem_mem hi)
    omega
  unfold rowI
  rw [if_neg (by omega), hr]
  simp

/-- the numbers of a shape -/
structure Dims (D H half C Hd : Nat) : Prop where
  d : D = H * (2 * half)
  h : 1 ≤ half
  hh : 1 ≤ H
  dm : D ≤ 64
  c : 1 ≤ C
  cm : C ≤ 512
  hd : 1 ≤ Hd
  hm : Hd ≤ 256
structure BlkOk (D Hd : Nat) (b : Blo) : Prop where
  g1 : b.1.length = D
  q : b.2.1.length = D * D
  k : b.2.2.1.length = D * D
  v : b.2.2.2.1.length = D * D
  o : b.2.2.2.2.1.length = D * D
  g2 : b.2.2.2.2.2.1.length = D
  m1 : b.2.2.2.2.2.2.2.2.2.2.2.1.length = Hd * D
  m2 : b.2.2.2.2.2.2.2.2.2.2.2.2.1.length = Hd * D
  m3 : b.2.2.2.2.2.2.2.2.2.2.2.2.2.1.length = D * Hd
  qs : 0 ≤ b.2.2.2.2.2.2.1 ∧ b.2.2.2.2.2.2.1 ≤ 31
  ks : 0 ≤ b.2.2.2.2.2.2.2.1 ∧ b.2.2.2.2.2.2.2.1 ≤ 31
  vs : 0 ≤ b.2.2.2.2.2.2.2.2.1 ∧ b.2.2.2.2.2.2.2.2.1 ≤ 31
  os : 0 ≤ b.2.2.2.2.2.2.2.2.2.1 ∧ b.2.2.2.2.2.2.2.2.2.1 ≤ 31
  ss : 0 ≤ b.2.2.2.2.2.2.2.2.2.2.1 ∧ b.2.2.2.2.2.2.2.2.2.2.1 ≤ 31
  gs : 0 ≤ b.2.2.2.2.2.2.2.2.2.2.2.2.2.2.1 ∧ b.2.2.2.2.2.2.2.2.2.2.2.2.2.2.1 ≤ 31
  us : 0 ≤ b.2.2.2.2.2.2.2.2.2.2.2.2.2.2.2.1 ∧ b.2.2.2.2.2.2.2.2.2.2.2.2.2.2.2.1 ≤ 31
  ds : 0 ≤ b.2.2.2.2.2.2.2.2.2.2.2.2.2.2.2.2 ∧ b.2.2.2.2.2.2.2.2.2.2.2.2.2.2.2.2 ≤ 31
structure FrmOk (H half C : Nat) (f : Frm) : Prop where
  h : f.1 = (H : Int)
  cos : f.2.1.length = C * half
  sin : f.2.2.1.length = C * half
  bend : f.2.2.2.length = 256

theorem Dims.pos {D H half C Hd : Nat} (h : Dims D H half C Hd) : 2 ≤ D := by
  have := Nat.mul_le_mul h.hh (show 2 ≤ 2 * half by have := h.h; omega)
  rw [← h.d] at this
  omega
theorem Dims.dd {D H half C Hd : Nat} (h : Dims D H half C Hd) : D * D ≤ 4096 := Nat.mul_le_mul h.dm h.dm
theorem Dims.hdd {D H half C Hd : Nat} (h : Dims D H half C Hd) : Hd * D ≤ 16384 := Nat.mul_le_mul h.hm h.dm
theorem Dims.hle {D H half C Hd : Nat} (h : Dims D H half C Hd) : 2 * half ≤ 64 := by
  have h1 := h.dm
  have := Nat.mul_le_mul_right (2 * half) h.hh
  rw [← h.d] at this
  omega

theorem angI_right {D H half C Hd : Nat} (h : Dims D H half C Hd) {f : Frm} (hf : FrmOk H half C f) {p : Nat} (hp : p < C) : ∃ c s, angI f D (p : Int) = (((2 * half : Nat) : Int), c, s, 0) ∧ c.length = half ∧ s.length = half := by
  have h1 := h.h
  have h2 := h.hh
  have hd := h.d
  have hsz : D / H = 2 * half := by rw [hd]; exact Nat.mul_div_cancel_left _ (by omega)
  have hm : D % H = 0 := by rw [hd]; exact Nat.mul_mod_right _ _
  have hc : f.2.1.length / half = C := by rw [hf.cos]; exact Nat.mul_div_cancel _ (by omega)
  have hs : f.2.2.1.length / half = C := by rw [hf.sin]; exact Nat.mul_div_cancel _ (by omega)
  have r1 := place_rng (l := f.2.1.length) (half := half) (p := p) (by omega)
  have r2 := place_rng (l := f.2.2.1.length) (half := half) (p := p) (by omega)
  refine ⟨(f.2.1.drop (p * half)).take half, (f.2.2.1.drop (p * half)).take half, ?_, by simp; omega, by simp; omega⟩
  unfold angI
  rw [hf.h]
  simp only [Int.toNat_natCast]
  rw [if_neg (by omega), hsz, if_neg (by omega), show 2 * half / 2 = half by omega, hc, hs, if_neg (by omega)]

theorem turnI_ok {x cos sin : List Int} {half : Nat} (h : 1 ≤ half) (hx : x.length % (2 * half) = 0) (hc : cos.length = half) (hs : sin.length = half) : (turnI x ((2 * half : Nat) : Int) cos sin).2 = 0 ∧ (turnI x ((2 * half : Nat) : Int) cos sin).1.length = x.length := by
  unfold turnI
  rw [if_neg (by omega), if_neg (by omega)]
  exact ⟨rfl, by simp⟩

theorem turnedI_ok {D H half C Hd : Nat} (h : Dims D H half C Hd) {w hh cos sin : List Int} {s : Int} (hw : w.length = D * D) (hl : hh.length = D) (hs : 0 ≤ s) (hs2 : s ≤ 31) (hc : cos.length = half) (hsn : sin.length = half) : (turnedI w hh s ((2 * half : Nat) : Int) cos sin).2 = 0 ∧ (turnedI w hh s ((2 * half : Nat) : Int) cos sin).1.length = D := by
  have h1 := h.dd
  have h2 := h.pos
  obtain ⟨t1, t2⟩ := throughI_ok (w := w) (h := hh) (s := s) (r := D) (by rw [hw, hl]) (by rw [hl]; omega) (by omega) hs (by omega)
  unfold turnedI
  rw [t1]
  simp only [ne_eq, not_true, if_false]
  rw [← t2]
  exact turnI_ok h.h (by rw [t2, h.d]; exact Nat.mul_mod_left _ _) hc hsn

theorem keys_ok {D H half C Hd : Nat} (h : Dims D H half C Hd) {b : Blo} {f : Frm} (hb : BlkOk D Hd b) (hf : FrmOk H half C f) {x : List Int} (hx : x.length = D) (hr : ∀ y ∈ x, -268435456 ≤ y ∧ y ≤ 268435456) {p : Nat} (hp : p < C) :
    (keysI b f x (p : Int)).2 = 0 ∧ (keysI b f x (p : Int)).1.1.length = D ∧ (keysI b f x (p : Int)).1.2.length = D ∧ all7 (keysI b f x (p : Int)).1.1 ∧ all7 (keysI b f x (p : Int)).1.2 := by
  have h1 := h.dd
  have h2 := h.pos
  have h3 := h.dm
  obtain ⟨c, s, a1, a2, a3⟩ := angI_right h hf hp
  obtain ⟨r1, r2⟩ := rowI_ok (x := x) (gain := b.1) (by rw [hb.g1, hx]) (by omega) (by omega) hr
  obtain ⟨k1, k2⟩ := turnedI_ok h (w := b.2.2.1) (hh := (rowI x b.1).1) (s := b.2.2.2.2.2.2.2.1) (cos := c) (sin := s) hb.k (by rw [r2, hx]) hb.ks.1 hb.ks.2 a2 a3
  obtain ⟨v1, v2⟩ := throughI_ok (w := b.2.2.2.1) (h := (rowI x b.1).1) (s := b.2.2.2.2.2.2.2.2.1) (r := D) (by rw [hb.v, r2, hx]) (by rw [r2, hx]; omega) (by omega) hb.vs.1 (by have := hb.vs.2; omega)
  unfold keysI
  simp only
  rw [hx, a1]
  simp only [ne_eq, not_true, if_false]
  rw [if_neg (by rw [r1]; decide), if_neg (by rw [k1]; decide), if_neg (by rw [v1]; decide)]
  exact ⟨rfl, k2, v2, turnedI_all, throughI_all⟩

/-! ### the mean of small numbers is small -/
theorem mean7 {w v : List Int} (hw : Good w) (hv : all7 v) : -127 ≤ meanI w v ∧ meanI w v ≤ 127 := by
  obtain ⟨S, hS⟩ : ∃ S, S = sumN (fun i => w.getD i 0) w.length := ⟨_, rfl⟩
  have hp := hw.pos
  have hpr : -(127 * S) ≤ prodN w v w.length ∧ prodN w v w.length ≤ 127 * S := by
    rw [hS, ← sumN_mul]
    refine sumN_abs _ fun i _ => ?_
    have h1 := hw.rng i
    have h2 := mul_abs (a := w.getD i 0) (hv.at i)
    have h3 : absI (w.getD i 0) = w.getD i 0 := by unfold absI; rw [if_neg (by omega)]
    rw [h3] at h2
    exact h2
  unfold meanI
  rw [← hS] at hp ⊢
  obtain ⟨P, hP⟩ : ∃ P, P = prodN w v w.length := ⟨_, rfl⟩
  rw [← hP] at hpr ⊢
  have hlo : -127 ≤ (2 * P + S) / (2 * S) := Int.le_ediv_of_mul_le (by omega) (by omega)
  have hhi : (2 * P + S) / (2 * S) < 128 := Int.ediv_lt_of_lt_mul (by omega) (by omega)
  rw [w8 (by omega) (by omega)]
  omega

theorem colI7 {rows : List (List Int)} {c : Nat} (h : ∀ r ∈ rows, all7 r) : all7 (colI rows c) := by
  intro x hx
  obtain ⟨i, hi, rfl⟩ := tab_mem hx
  rw [getD_lt hi]
  exact (h _ (List.getElem_mem hi)).at c
theorem headAt7 {q : List Int} {keys values : List (List Int)} {sz : Nat} {s : Int} {h : Nat} (h1 : 1 ≤ keys.length) (h2 : keys.length ≤ 512) (hv : ∀ r ∈ values, all7 r) : all7 (headAt q keys values sz s h) := by
  intro x hx
  unfold headAt headL meansL at hx
  obtain ⟨c, hc, rfl⟩ := tab_mem hx
  have hg : Good (weightsL (scoresL ((q.drop (h * sz)).take sz) (cutR keys (h * sz) sz) s)) := by
    refine weightsL_good ?_ ?_
    · simp [scoresL, cutR]; omega
    · simp [scoresL, cutR]; omega
  refine mean7 hg (colI7 ?_)
  intro r hr
  obtain ⟨i, hi, rfl⟩ := tab_mem hr
  intro y hy
  have hm := List.mem_of_mem_drop (List.mem_of_mem_take hy)
  rw [getD_lt hi] at hm
  exact hv _ (List.getElem_mem hi) y hm
theorem lookI_ok {D H half C Hd : Nat} (h : Dims D H half C Hd) {q : List Int} {past : Pairs} {s : Int} (hq : q.length = D) (h1 : 1 ≤ past.length) (h2 : past.length ≤ C) (hp : ∀ p ∈ past, p.1.length = D ∧ p.2.length = D ∧ all7 p.1 ∧ all7 p.2) (hs : 0 ≤ s) (hs2 : s ≤ 31) :
    (lookI q (H : Int) past s).2 = 0 ∧ (lookI q (H : Int) past s).1.length = D ∧ all7 (lookI q (H : Int) past s).1 := by
  have hcm := h.cm
  have hdm := h.dm
  have hpos := h.pos
  have hhh := h.hh
  have hk : ∀ i, i < past.length → past.getD i ([], []) ∈ past := fun i hi => by rw [getD_lt hi]; exact List.getElem_mem hi
  have f1 : Fits q (keysOf past) := by
    refine ⟨by simp [keysOf]; omega, by omega, fun i hi => ?_⟩
    have hi' : i < past.length := by simpa [keysOf] using hi
    unfold keysOf
    rw [tab_getD _ hi', (hp _ (hk i hi')).1, hq]
  have f2 : Fits q (valuesOf past) := by
    refine ⟨by simp [valuesOf]; omega, by omega, fun i hi => ?_⟩
    have hi' : i < past.length := by simpa [valuesOf] using hi
    unfold valuesOf
    rw [tab_getD _ hi', (hp _ (hk i hi')).2.1, hq]
  have hm : D % H = 0 := by rw [h.d]; exact Nat.mul_mod_right _ _
  have hsz : D / H = 2 * half := by rw [h.d]; exact Nat.mul_div_cancel_left _ (by omega)
  have hm' : ((q.length : Nat) : Int) % (H : Int) = 0 := by rw [hq]; omega
  unfold lookI
  rw [if_neg (by omega), if_neg (by exact fun hn => hn ⟨f1, f2⟩), if_neg (by omega), Int.toNat_natCast, hq, hsz]
  refine ⟨rfl, ?_, ?_⟩
  · show (catN _ H).length = D
    rw [catN_len' (m := 2 * half) (H := H) ?_ H (Nat.le_refl _), ← h.d]
    intro i hi
    rw [headAt_len']
    exact (sub_len (q := q) (sz := 2 * half) (H := H) (by rw [hq]; exact h.d) hi).1
  · refine catN_mem (p := fun x => -127 ≤ x ∧ x ≤ 127) (fun i => headAt7 ?_ ?_ ?_) H
    · simp [keysOf]; omega
    · simp [keysOf]; omega
    · intro r hr
      obtain ⟨i, hi, rfl⟩ := tab_mem hr
      exact (hp _ (hk i hi)).2.2.2

/-- what a row takes on behind a matrix -/
theorem scaled_rng {w o : List Int} {s a : Int} {r c : Nat} (hw : w.length = r * c) (hb : r * c ≤ 1048576) (hc : 1 ≤ c) (ho : o.length = c) (ho7 : all7 o) (hs : 0 ≤ s) (hs2 : s ≤ 31) (ha : ∀ j, j < r → (roundI (127 * sizeI (rowN w c j)) s).1 ≤ a) :
    (timesI w (c : Int) o).2 = 0 ∧ (scaleI (timesI w (c : Int) o).1 s).2 = 0 ∧ (scaleI (timesI w (c : Int) o).1 s).1.length = r ∧ ∀ y ∈ (scaleI (timesI w (c : Int) o).1 s).1, -a ≤ y ∧ y ≤ a := by
  have hd : w.length / c = r := by rw [hw]; exact Nat.mul_div_cancel _ (by omega)
  have hr : r ≤ 1048576 := by
    have := Nat.le_mul_of_pos_right r (show 0 < c by omega)
    omega
  rw [timesI_ok (by omega) hc (by rw [hw]; exact Nat.mul_mod_left _ _) ho]
  simp only
  rw [scaleI_ok (by rw [timesL_len, hd]; exact hr) hs (by omega)]
  refine ⟨trivial, rfl, by simp [timesL_len, hd], ?_⟩
  intro y hy
  obtain ⟨z, hz, rfl⟩ := List.mem_map.1 hy
  obtain ⟨j, hj, rfl⟩ := tab_mem hz
  rw [hd] at hj
  have h1 := dot_size (r := rowN w c j) ho7
  have h2 := round_abs (s := s) (x := dotI (rowN w c j) o) (X := 127 * sizeI (rowN w c j)) (by omega) (by omega) hs (by omega)
  have h3 := ha j hj
  omega

theorem addL_ok {x z : List Int} {R a : Int} (hl : z.length = x.length) (hlen : x.length ≤ 1048576) (hx : ∀ y ∈ x, -R ≤ y ∧ y ≤ R) (hz : ∀ y ∈ z, -a ≤ y ∧ y ≤ a) (hR : R + a ≤ 268435456) (ha : 0 ≤ a) (hR0 : 0 ≤ R) :
    (addL x z).2 = 0 ∧ (addL x z).1.length = x.length ∧ ∀ y ∈ (addL x z).1, -(R + a) ≤ y ∧ y ≤ R + a := by
  have hat : ∀ i, i < x.length → sumAt x z i = (x.getD i 0 + z.getD i 0, true) ∧ -(R + a) ≤ x.getD i 0 + z.getD i 0 ∧ x.getD i 0 + z.getD i 0 ≤ R + a := by
    intro i hi
    have h1 := hx _ (List.getElem_mem hi)
    have h2 := hz _ (List.getElem_mem (show i < z.length by omega))
    rw [← getD_lt hi 0] at h1
    rw [← getD_lt (show i < z.length by omega) 0] at h2
    unfold sumAt addI
    rw [if_pos (by omega)]
    exact ⟨rfl, by omega, by omega⟩
  have hf : fit2 x z = 0 := by
    unfold fit2
    rw [if_neg (by omega), if_neg (by omega)]
  unfold addL
  rw [hf, if_neg (by simp), if_neg]
  · refine ⟨rfl, by simp, ?_⟩
    intro y hy
    obtain ⟨i, hi, rfl⟩ := tab_mem hy
    rw [(hat i hi).1]
    exact (hat i hi).2
  · rintro ⟨i, hi, hn⟩
    rw [(hat i hi).1] at hn
    cases hn

theorem middleI_ok {D H half C Hd : Nat} (h : Dims D H half C Hd) {b : Blo} {f : Frm} (hb : BlkOk D Hd b) (hf : FrmOk H half C f) {g : List Int} (hg : g.length = D) {c : Int} (hc : ∀ j, j < D → (roundI (127 * sizeI (rowN b.2.2.2.2.2.2.2.2.2.2.2.2.2.1 Hd j)) b.2.2.2.2.2.2.2.2.2.2.2.2.2.2.2.2).1 ≤ c) :
    (middleI b.2.2.2.2.2.2.2.2.2.2.2 f.2.2.2 g).2 = 0 ∧ (middleI b.2.2.2.2.2.2.2.2.2.2.2 f.2.2.2 g).1.length = D ∧ ∀ y ∈ (middleI b.2.2.2.2.2.2.2.2.2.2.2 f.2.2.2 g).1, -c ≤ y ∧ y ≤ c := by
  have h1 := h.hdd
  have h2 := h.pos
  have h3 := h.hd
  have h4 := h.hm
  obtain ⟨g1, g2⟩ := throughI_ok (w := b.2.2.2.2.2.2.2.2.2.2.2.1) (h := g) (s := b.2.2.2.2.2.2.2.2.2.2.2.2.2.2.1) (r := Hd) (by rw [hb.m1, hg]) (by rw [hg]; omega) (by omega) hb.gs.1 (by have := hb.gs.2; omega)
  obtain ⟨u1, u2⟩ := throughI_ok (w := b.2.2.2.2.2.2.2.2.2.2.2.2.1) (h := g) (s := b.2.2.2.2.2.2.2.2.2.2.2.2.2.2.2.1) (r := Hd) (by rw [hb.m2, hg]) (by rw [hg]; omega) (by omega) hb.us.1 (by have := hb.us.2; omega)
  obtain ⟨M, hM⟩ : ∃ M, M = gateI f.2.2.2 (throughI b.2.2.2.2.2.2.2.2.2.2.2.1 g b.2.2.2.2.2.2.2.2.2.2.2.2.2.2.1).1 (throughI b.2.2.2.2.2.2.2.2.2.2.2.2.1 g b.2.2.2.2.2.2.2.2.2.2.2.2.2.2.2.1).1 := ⟨_, rfl⟩
  have m1 : M.2 = 0 ∧ M.1.length = Hd := by
    rw [hM]
    unfold gateI
    rw [if_neg (by rw [hf.bend]; simp), if_neg (by omega), if_neg (by omega)]
    exact ⟨rfl, by simp [g2]⟩
  have m2 : all7 M.1 := by rw [hM]; exact gateI_all
  obtain ⟨d1, d2, d3, d4⟩ := scaled_rng (w := b.2.2.2.2.2.2.2.2.2.2.2.2.2.1) (o := M.1) (s := b.2.2.2.2.2.2.2.2.2.2.2.2.2.2.2.2) (a := c) (r := D) (c := Hd) hb.m3 (by rw [Nat.mul_comm]; omega) (by omega) m1.2 m2 hb.ds.1 hb.ds.2 hc
  unfold middleI
  simp only
  rw [if_neg (by rw [g1]; decide), if_neg (by rw [u1]; decide), ← hM, if_neg (by rw [m1.1]; decide), m1.2, if_neg (by rw [d1]; decide)]
  exact ⟨d2, d3, d4⟩

theorem run_ok {D H half C Hd : Nat} (h : Dims D H half C Hd) {b : Blo} {f : Frm} (hb : BlkOk D Hd b) (hf : FrmOk H half C f) {x : List Int} {past : Pairs} {R a c : Int} (hx : x.length = D) (hr : ∀ y ∈ x, -R ≤ y ∧ y ≤ R) (hR0 : 0 ≤ R) (ha0 : 0 ≤ a) (hc0 : 0 ≤ c) (hR : R + a + c ≤ 268435456)
    (h1 : 1 ≤ past.length) (h2 : past.length ≤ C) (hp : ∀ p ∈ past, p.1.length = D ∧ p.2.length = D ∧ all7 p.1 ∧ all7 p.2)
    (ha : ∀ j, j < D → (roundI (127 * sizeI (rowN b.2.2.2.2.1 D j)) b.2.2.2.2.2.2.2.2.2.1).1 ≤ a)
    (hc : ∀ j, j < D → (roundI (127 * sizeI (rowN b.2.2.2.2.2.2.2.2.2.2.2.2.2.1 Hd j)) b.2.2.2.2.2.2.2.2.2.2.2.2.2.2.2.2).1 ≤ c) :
    (runI b f x past).2 = 0 ∧ (runI b f x past).1.length = D ∧ ∀ y ∈ (runI b f x past).1, -(R + a + c) ≤ y ∧ y ≤ R + a + c := by
  have g1 := h.dd
  have g2 := h.pos
  have g3 := h.dm
  obtain ⟨co, si, a1, a2, a3⟩ := angI_right h hf (p := past.length - 1) (by omega)
  rw [show ((past.length - 1 : Nat) : Int) = (past.length : Int) - 1 by omega] at a1
  obtain ⟨r1, r2⟩ := rowI_ok (x := x) (gain := b.1) (by rw [hb.g1, hx]) (by omega) (by omega) (fun y hy => by have := hr y hy; omega)
  obtain ⟨q1, q2⟩ := turnedI_ok h (w := b.2.1) (hh := (rowI x b.1).1) (s := b.2.2.2.2.2.2.1) (cos := co) (sin := si) hb.q (by rw [r2, hx]) hb.qs.1 hb.qs.2 a2 a3
  obtain ⟨o1, o2, o3⟩ := lookI_ok h (q := (turnedI b.2.1 (rowI x b.1).1 b.2.2.2.2.2.2.1 ((2 * half : Nat) : Int) co si).1) (past := past) (s := b.2.2.2.2.2.2.2.2.2.2.1) q2 h1 h2 hp hb.ss.1 hb.ss.2
  obtain ⟨t1, t2, t3, t4⟩ := scaled_rng (w := b.2.2.2.2.1) (o := (lookI (turnedI b.2.1 (rowI x b.1).1 b.2.2.2.2.2.2.1 ((2 * half : Nat) : Int) co si).1 (H : Int) past b.2.2.2.2.2.2.2.2.2.2.1).1) (s := b.2.2.2.2.2.2.2.2.2.1) (a := a) (r := D) (c := D) hb.o (by omega) (by omega) o2 o3 hb.os.1 hb.os.2 ha
  have hL : lookedI b f x past = addL x (scaleI (timesI b.2.2.2.2.1 (D : Int) (lookI (turnedI b.2.1 (rowI x b.1).1 b.2.2.2.2.2.2.1 ((2 * half : Nat) : Int) co si).1 (H : Int) past b.2.2.2.2.2.2.2.2.2.2.1).1).1 b.2.2.2.2.2.2.2.2.2.1).1 := by
    unfold lookedI
    simp only
    rw [hx, a1, hf.h]
    simp only [ne_eq, not_true, if_false]
    rw [if_neg (by rw [r1]; decide), if_neg (by rw [q1]; decide), if_neg (by rw [o1]; decide), if_neg (by rw [t1]; decide), if_neg (by rw [t2]; decide)]
  obtain ⟨l1, l2, l3⟩ := addL_ok (x := x) (R := R) (a := a) (by rw [t3, hx]) (by omega) hr t4 (by omega) ha0 hR0
  rw [← hL] at l1 l2 l3
  obtain ⟨s1, s2⟩ := rowI_ok (x := (lookedI b f x past).1) (gain := b.2.2.2.2.2.1) (by rw [hb.g2, l2, hx]) (by omega) (by omega) (fun y hy => by have := l3 y hy; omega)
  obtain ⟨m1, m2, m3⟩ := middleI_ok h hb hf (g := (rowI (lookedI b f x past).1 b.2.2.2.2.2.1).1) (by rw [s2, l2, hx]) hc
  obtain ⟨e1, e2, e3⟩ := addL_ok (x := (lookedI b f x past).1) (R := R + a) (a := c) (by rw [m2, l2, hx]) (by omega) l3 m3 (by omega) hc0 (by omega)
  unfold runI
  simp only
  rw [if_neg (by rw [l1]; decide), if_neg (by rw [s1]; decide), if_neg (by rw [m1]; decide)]
  exact ⟨e1, by rw [e2, l2, hx], e3⟩

theorem pass_ok {D H half C Hd : Nat} (h : Dims D H half C Hd) {b : Blo} {f : Frm} (hb : BlkOk D Hd b) (hf : FrmOk H half C f) {R a c : Int} (hR0 : 0 ≤ R) (ha0 : 0 ≤ a) (hc0 : 0 ≤ c) (hR : R + a + c ≤ 268435456)
    (ha : ∀ j, j < D → (roundI (127 * sizeI (rowN b.2.2.2.2.1 D j)) b.2.2.2.2.2.2.2.2.2.1).1 ≤ a)
    (hc : ∀ j, j < D → (roundI (127 * sizeI (rowN b.2.2.2.2.2.2.2.2.2.2.2.2.2.1 Hd j)) b.2.2.2.2.2.2.2.2.2.2.2.2.2.2.2.2).1 ≤ c) :
    ∀ (xs : List (List Int)) (all : Pairs) (out : List (List Int)), (∀ x ∈ xs, x.length = D ∧ ∀ y ∈ x, -R ≤ y ∧ y ≤ R) → all.length + xs.length ≤ C → (∀ p ∈ all, p.1.length = D ∧ p.2.length = D ∧ all7 p.1 ∧ all7 p.2) → (∀ y ∈ out, y.length = D ∧ ∀ z ∈ y, -(R + a + c) ≤ z ∧ z ≤ R + a + c) →
    ∃ r, passGo b f xs all out = .inr r ∧ (∀ p ∈ r.1, p.1.length = D ∧ p.2.length = D ∧ all7 p.1 ∧ all7 p.2) ∧ ∀ y ∈ r.2, y.length = D ∧ ∀ z ∈ y, -(R + a + c) ≤ z ∧ z ≤ R + a + c := by
  intro xs
  induction xs with
  | nil => intro all out _ _ h3 h4; exact ⟨(all, out), rfl, h3, h4⟩
  | cons x xs ih =>
    intro all out h1 h2 h3 h4
    simp only [List.length_cons] at h2
    obtain ⟨x1, x2⟩ := h1 x List.mem_cons_self
    obtain ⟨k1, k2, k3, k4, k5⟩ := keys_ok h hb hf x1 (fun y hy => by have := x2 y hy; omega) (p := all.length) (by omega)
    have h3' : ∀ p ∈ all ++ [(keysI b f x (all.length : Int)).1], p.1.length = D ∧ p.2.length = D ∧ all7 p.1 ∧ all7 p.2 := by
      intro p hp
      rcases List.mem_append.1 hp with hp | hp
      · exact h3 p hp
      · rw [List.mem_singleton.1 hp]; exact ⟨k2, k3, k4, k5⟩
    obtain ⟨r1, r2, r3⟩ := run_ok h hb hf x1 x2 hR0 ha0 hc0 hR (past := all ++ [(keysI b f x (all.length : Int)).1]) (by simp) (by simp; omega) h3' ha hc
    simp only [passGo]
    rw [if_neg (by rw [k1]; decide), if_neg (by rw [r1]; decide)]
    refine ih _ _ (fun y hy => h1 y (List.mem_cons_of_mem _ hy)) (by simp; omega) h3' ?_
    intro y hy
    rcases List.mem_append.1 hy with hy | hy
    · exact h4 y hy
    · rw [List.mem_singleton.1 hy]; exact ⟨r2, r3⟩

end Go.Am.Pu
