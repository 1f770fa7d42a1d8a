import Derived.Test.YtfafklfpikjheaaGreatT1
import Derived.RangeFuncNested
import Derived.Test.YtfafklfpikjheaaGreatA7
set_option linter.unusedVariables false
set_option linter.unusedSimpArgs false
/- vec.Times does what its entry says. -/
namespace Go.Proofs
open Go.RowKit Go.Shelf Go.Am

attribute [local go_sem] Oper.semAt_some

namespace Tryz
/-- a row cut into pieces -/
def chunks {α : Type} (k : Nat) (l : List α) : List (List α) := upto (fun j => (l.drop (j * k)).take k) (pcs l.length k)

def timesF (Fm : List Int × Int → Option Int) (Fd : List Int × List Int → Option Int) (x : List Int × Int × List Int) : Option (List Int × Int) :=
  (Fm (x.1, x.2.1)).bind fun e =>
    brk (!(e == 0)) (some ([], e))
      (brk (!(((List.length x.2.2 : Nat) : Int) == x.2.1)) (some ([], 80))
        (brk (decide (1 ≤ x.2.1) && decide (x.2.1 ≤ 1000000000000) && decide (x.1.length ≤ 1000000000)) ((mapO (fun row => Fd (row, x.2.2)) (chunks x.2.1.toNat x.1)).bind fun out => some (out, 0)) none))

theorem info2 : (Tryz.prog.info? 2).map (fun i => (i.zero, i.size, i.bytes)) = some (some (.int .i64 0), 1, 8) := by kernel_rfl

theorem boxed_ext {W W' : World} (h : W.Extends W') {B : Nat} {t : TypeId} {v : Value} (hb : Boxed W B t v) : Boxed W' B t v := (h.block B hb.lt).trans hb

theorem vt_int {w : World} {Z Zp : Zone} {k : IntKind} {x : Int} {v : Value} (h : VT w Z Zp (.int k) x v) : v = .int k x := by
  have : PR w Z Zp (.int k) x [v] := h
  simp only [PR] at this
  injection this

theorem mapO_snoc {α β : Type} (f : α → Option β) : ∀ (l : List α) (x : α) (out : List β) (y : β), mapO f l = some out → f x = some y → mapO f (l ++ [x]) = some (out ++ [y])
  | [], x, out, y, h, hy => by cases h; simp [mapO, hy]
  | a :: l, x, out, y, h, hy => by
    simp only [mapO] at h
    split at h
    · rename_i b hb
      split at h
      · rename_i bs hbs
        cases h
        have := mapO_snoc f l x bs y hbs hy
        simp [mapO, hb, this]
      · cases h
    · cases h
theorem mapO_pre {α β : Type} (f : α → Option β) : ∀ (l r : List α) (out : List β), mapO f (l ++ r) = some out → ∃ o1, mapO f l = some o1
  | [], r, out, h => ⟨[], rfl⟩
  | a :: l, r, out, h => by
    simp only [List.cons_append, mapO] at h
    split at h
    · rename_i b hb
      split at h
      · rename_i bs hbs
        obtain ⟨o, ho⟩ := mapO_pre f l r bs hbs
        exact ⟨b :: o, by simp [mapO, hb, ho]⟩
      · cases h
    · cases h
theorem mapO_mem {α β : Type} (f : α → Option β) : ∀ (l : List α) (out : List β), mapO f l = some out → ∀ x ∈ l, ∃ y, f x = some y
  | [], out, h, x, hx => by cases hx
  | a :: l, out, h, x, hx => by
    simp only [mapO] at h
    split at h
    · rename_i b hb
      split at h
      · rename_i bs hbs
        rcases List.mem_cons.1 hx with rfl | hx
        · exact ⟨b, hb⟩
        · exact mapO_mem f l bs hbs x hx
      · cases h
    · cases h
theorem mapO_len {α β : Type} (f : α → Option β) : ∀ (l : List α) (out : List β), mapO f l = some out → out.length = l.length
  | [], out, h => by cases h; rfl
  | a :: l, out, h => by
    simp only [mapO] at h
    split at h
    · split at h
      · rename_i bs hbs
        cases h
        simp [mapO_len f l bs hbs]
      · cases h
    · cases h

theorem brk_cases {R : Type} {c : Bool} {x y : Option R} {r : R} (h : brk c x y = some r) : (c = true ∧ x = some r) ∨ (c = false ∧ y = some r) := by
  cases c with
  | true => exact .inl ⟨rfl, h⟩
  | false => exact .inr ⟨rfl, h⟩

theorem timesF_cases {Fm : List Int × Int → Option Int} {Fd : List Int × List Int → Option Int} {xs ys : List Int} {cols : Int} {r : List Int × Int} (h : timesF Fm Fd (xs, cols, ys) = some r) :
    ∃ e0, Fm (xs, cols) = some e0 ∧ ((e0 ≠ 0 ∧ r = ([], e0)) ∨ (e0 = 0 ∧ ((ys.length : Nat) : Int) ≠ cols ∧ r = ([], 80)) ∨
      (e0 = 0 ∧ ((ys.length : Nat) : Int) = cols ∧ 1 ≤ ys.length ∧ ys.length ≤ 1000000000000 ∧ xs.length ≤ 1000000000 ∧ ∃ out, mapO (fun row => Fd (row, ys)) (chunks ys.length xs) = some out ∧ r = (out, 0))) := by
  unfold timesF at h
  obtain ⟨e0, he0, h⟩ := Option.bind_eq_some_iff.1 h
  refine ⟨e0, he0, ?_⟩
  rcases brk_cases h with ⟨h1, h⟩ | ⟨h1, h⟩
  · cases h
    exact .inl ⟨by simpa using h1, rfl⟩
  · have h1 : e0 = 0 := by simpa using h1
    rcases brk_cases h with ⟨h2, h⟩ | ⟨h2, h⟩
    · cases h
      exact .inr (.inl ⟨h1, by simpa using h2, rfl⟩)
    · have h2 : ((ys.length : Nat) : Int) = cols := by simpa using h2
      rcases brk_cases h with ⟨h3, h⟩ | ⟨h3, h⟩
      · simp only [Bool.and_eq_true, decide_eq_true_eq] at h3
        obtain ⟨out, ho, h⟩ := Option.bind_eq_some_iff.1 h
        cases h
        subst h2
        rw [Int.toNat_natCast] at ho
        exact .inr (.inr ⟨h1, rfl, by omega, by omega, by omega, out, ho, rfl⟩)
      · cases h

/-- piece number j -/
def pieceV (a : Option Addr) (n k j : Nat) : Value :=
  match a with
  | some ⟨b, off, none⟩ => .slice (some ⟨b, off + j * k, none⟩) (min k (n - j * k)) (min k (n - j * k))
  | _ => .slice none 0 0

theorem pr_nil {w : World} {Z Zp : Zone} : PR w Z Zp (.sl (.int .i64)) ([] : List Int) [.slice none 0 0] := ⟨none, 0, [], rfl, Nat.le_refl _, rfl, fun h => absurd rfl h⟩

theorem prl_int {w : World} {Z Zp : Zone} {k : IntKind} : ∀ (l : List Int) (us : List Value), PRL (PR w Z Zp (.int k)) l us ↔ us = l.map (Value.int k)
  | [], us => Iff.rfl
  | x :: l, us => by
    simp only [PRL, List.map_cons]
    constructor
    · rintro ⟨es, rest, rfl, h1, h2⟩
      have h1 : es = [.int k x] := h1
      rw [h1, (prl_int l rest).1 h2]
      rfl
    · rintro rfl
      exact ⟨[.int k x], _, rfl, rfl, (prl_int l _).2 rfl⟩

theorem piece_pr {w : World} {Z Zp : Zone} {k : IntKind} {a0 : Option Addr} {n0 : Nat} {xs : List Int} (hn : n0 = xs.length) {us : List Value} (hus : PRL (PR w Z Zp (.int k)) xs us) (hat : At w Z a0 us) (sz j : Nat) :
    PR w Z Zp (.sl (.int k)) ((xs.drop (j * sz)).take sz) [pieceV a0 n0 sz j] := by
  have hu := (prl_int xs us).1 hus
  subst hu
  cases xs with
  | nil =>
    subst hn
    have : ∀ a0, ∃ base, pieceV a0 (List.length ([] : List Int)) sz j = .slice base 0 0 := by
      intro a0
      unfold pieceV
      split
      · exact ⟨some ⟨_, _, none⟩, by simp; exact ⟨rfl, rfl⟩⟩
      · exact ⟨_, rfl⟩
    obtain ⟨base, this⟩ := this a0
    rw [this]
    have hx : (([] : List Int).drop (j * sz)).take sz = [] := by simp
    refine cast (congrArg (fun l : List Int => PR w Z Zp (.sl (.int k)) l [.slice base 0 0]) hx.symm) ?_
    exact ⟨base, 0, [], rfl, Nat.le_refl _, rfl, fun h => absurd rfl h⟩
  | cons y l =>
    obtain ⟨b, off, rfl, hc⟩ := hat (by simp)
    subst hn
    have hl : List.length (((y :: l).drop (j * sz)).take sz) = min sz ((y :: l).length - j * sz) := by simp
    refine ⟨some ⟨b, off + j * sz, none⟩, min sz ((y :: l).length - j * sz), ((((y :: l).drop (j * sz)).take sz).map (Value.int k)), ?_, ?_, (prl_int _ _).2 rfl, fun _ => ⟨b, off + j * sz, rfl, fun i u hi => ?_⟩⟩
    · show _ = [Value.slice _ (List.length (((y :: l).drop (j * sz)).take sz)) _]
      rw [hl]; rfl
    · exact Nat.le_of_eq hl
    · rw [List.getElem?_map] at hi
      have h1 : (((y :: l).drop (j * sz)).take sz)[i]? = if i < sz then (y :: l)[j * sz + i]? else none := by
        rw [List.getElem?_take]
        split
        · rw [List.getElem?_drop]
        · rfl
      rw [h1] at hi
      split at hi
      · rename_i hlt
        have := hc (j * sz + i) u (by rw [List.getElem?_map]; exact hi)
        rw [Nat.add_assoc]; exact this
      · cases hi

theorem owns_ext {W W' : World} (h : W.Extends W') {base e size : Nat} {v : Value} {n : Nat} {xs : List Value} (ho : W.ownsRow base e size v n xs) : W'.ownsRow base e size v n xs := by
  refine ⟨ho.1, ?_⟩
  rcases ho.2 with h1 | ⟨g, cap, cur, h1, h2, h3, h4⟩
  · exact .inl h1
  · exact .inr ⟨g, cap, cur, h1, h2, (h.block g (Array.getElem?_eq_some_iff.1 h3).1).trans h3, h4⟩

theorem owns_pr {w w' : World} {Z : Zone} {base e : Nat} {v : Value} {l : List Int} (hb : w.heap.size ≤ base) (ho : w'.ownsRow base e 1 v l.length (l.map (Value.int .i64))) : PR w' (Znew Z w w') noZone (.sl (.int .i64)) l [v] := by
  rcases ho.2 with ⟨h1, h2⟩ | ⟨g, cap, cur, h1, h2, h3, h4, h5, h6, h7⟩
  · rw [h1]
    have : l = [] := List.length_eq_zero_iff.1 h2
    subst this
    exact pr_nil
  · rw [h1]
    have hg := (Array.getElem?_eq_some_iff.1 h3).1
    refine ⟨_, cap, l.map (Value.int .i64), rfl, h4, (prl_int _ _).2 rfl, fun _ => ⟨g, 0, rfl, fun j u hj => ⟨?_, .inr ⟨by omega, hg⟩⟩⟩⟩
    rw [← h7, List.getElem?_take] at hj
    split at hj
    · have : cur[j]? = some u := by rw [← Array.getElem?_toList]; exact hj
      simp [World.cell?, h3, this]
    · cases hj

theorem retS {w w' : World} {Z : Zone} {l : List Int} {n : Int} {sv : Value} (h : w.Extends w') (k : PR w' (Znew Z w w') noZone (.sl (.int .i64)) l [sv]) {e : Ending} (he : e = .returned (.tuple #[sv, .int .i64 n])) :
    ∃ v, e = .returned v ∧ w.Extends w' ∧ ResR w' (Znew Z w w') noZone [.sl (.int .i64), .int .i64] (l, n) v := ⟨_, he, h, _, rfl, _, _, rfl, k, _, rfl, rfl⟩

set_option maxRecDepth 100000 in
set_option maxHeartbeats 2000000 in
theorem times_calls {Fm : List Int × Int → Option Int} {Fd : List Int × List Int → Option Int} (hm : PSound Tryz.prog 94 ⟨[.sl (.int .i8), .int .i64], [.int .i64], Fm⟩) (hd : PSound Tryz.prog 96 ⟨[.sl (.int .i8), .sl (.int .i8)], [.int .i64], Fd⟩)
    (w : World) (Z Zp : Zone) (xs : List Int) (cols : Int) (ys : List Int) (r : List Int × Int) (v0 v2 : Value) (hz : ∀ b i, Z b i → b < w.heap.size) (hzp : ∀ b i, Zp b i → b < w.heap.size)
    (h0 : PR w Z Zp (.sl (.int .i8)) xs [v0]) (h2 : PR w Z Zp (.sl (.int .i8)) ys [v2]) (e : timesF Fm Fd (xs, cols, ys) = some r) :
    Calls Tryz.prog 54 #[v0, .int .i64 cols, v2] w fun e w' => ∃ v, e = .returned v ∧ w.Extends w' ∧ ResR w' (Znew Z w w') noZone [.sl (.int .i64), .int .i64] r v := by
  obtain ⟨e0, he0, e⟩ := timesF_cases e
  have w1ext : w.Extends (w.alloc (.cells #[v2] 22)) := (World.Extends.refl w).alloc _
  have kz : Keeps w (w.alloc (.cells #[v2] 22)) Z Z := fun b i hb => ⟨hb, w1ext.cell _ (hz b i hb)⟩
  have kzp : Keeps w (w.alloc (.cells #[v2] 22)) Zp Zp := fun b i hb => ⟨hb, w1ext.cell _ (hzp b i hb)⟩
  have hcm := hm.calls (w.alloc (.cells #[v2] 22)) Z Zp (xs, cols) e0 [v0, .int .i64 cols] (fun b i hb => by have := hz b i hb; simp; omega) (fun b i hb => by have := hzp b i hb; simp; omega) ⟨v0, _, rfl, PR.mono kz kzp _ _ _ h0, _, rfl, rfl⟩ he0
  replace hcm : Calls Tryz.prog 94 #[v0, .int .i64 cols] (w.alloc (.cells #[v2] 22)) fun e w' => e = .returned (.int .i64 e0) ∧ (w.alloc (.cells #[v2] 22)).Extends w' :=
    hcm.mono fun e w' ⟨v, he, hext, hres⟩ => ⟨by rw [he, vt_int (show VT w' (Znew Z (w.alloc (.cells #[v2] 22)) w') noZone (.int .i64) e0 v from hres)], hext⟩
  have h0' := h0
  have h2' := h2
  obtain ⟨a0, cap0, us0, q1, hlc, hus, hat⟩ := h0'
  obtain ⟨a2, cap2, us2, q2, _, _, _⟩ := h2'
  obtain ⟨n0, hn0⟩ : ∃ n, Hid (n = List.length xs) := ⟨_, rfl⟩
  obtain ⟨n2, hn2⟩ : ∃ n, Hid (n = List.length ys) := ⟨_, rfl⟩
  have e1 : v0 = .slice a0 n0 cap0 := by rw [hn0.out]; injection q1
  have e2 : v2 = .slice a2 n2 cap2 := by rw [hn2.out]; injection q2
  clear q1 q2
  subst e1
  subst e2
  refine (callsIn_wide (n := 5)).1 ?_
  refine callsIn_of_wp_marks Tryz.func54 rfl trivial ?_ rfl
  simp only [Tryz.ntmps54, List.size_toArray, List.length_cons, List.length_nil, Nat.reduceAdd, Nat.reduceSub, Array.replicate_succ, Array.replicate_zero, List.push_toArray, List.append_toArray, List.nil_append, List.cons_append]
  rcases e with ⟨h00, rfl⟩ | ⟨rfl, hlen, rfl⟩ | ⟨rfl, hlen, hg1, hg2, hg3, out0, hout0, rfl⟩
  · gi_wp2_with (refine ⟨trivial, ?_⟩; gi_at_call 94; refine (callsIn_wide.2 hcm).mono ?_; rintro e w2 ⟨rfl, hext⟩; have hbX := boxed_ext hext (Boxed.new w 22 (.slice a2 n2 cap2)); have hcX := hbX.cell)
    exact ⟨_, results_tmp2 rfl _ _ _, retS (w1ext.trans hext) pr_nil rfl⟩
  · rw [← hn2.out] at hlen
    gi_wp2_with (refine ⟨trivial, ?_⟩; gi_at_call 94; refine (callsIn_wide.2 hcm).mono ?_; rintro e w2 ⟨rfl, hext⟩; have hbX := boxed_ext hext (Boxed.new w 22 (.slice a2 n2 cap2)); have hcX := hbX.cell)
    exact ⟨_, results_tmp2 rfl _ _ _, retS (w1ext.trans hext) pr_nil rfl⟩
  · rw [← hn2.out] at hlen hg1 hg2
    rw [← hn0.out] at hg3
    subst hlen
    gi_wp2_with (first
          | (refine ⟨trivial, ?_⟩; gi_at_call 94; refine (callsIn_wide.2 hcm).mono ?_; rintro e w2 ⟨rfl, hext⟩; have hbX := boxed_ext hext (Boxed.new w 22 (.slice a2 n2 cap2)); have hcX := hbX.cell)
          | (refine ⟨trivial, ?_⟩; gi_at_call 95; refine (Tryz.chunk_in _ _ trivial rfl _ _ _ _ (by omega) (by omega) _).mono ?_; rintro e w' ⟨rfl, rfl⟩))
    have hK0 : ∀ j, PR w Z Zp (.sl (.int .i8)) ((xs.drop (j * n2)).take n2) [pieceV a0 n0 n2 j] := fun j => piece_pr hn0.out hus hat n2 j
    have hpos : 0 < n0 → ∀ j, j < pcs n0 n2 → ∃ y, Fd ((xs.drop (j * n2)).take n2, ys) = some y := fun _ j hj => by
      refine mapO_mem _ _ _ hout0 _ ?_
      rw [← hn2.out]
      simp only [chunks, upto, List.mem_map, List.mem_range]
      exact ⟨j, by rw [← hn0.out]; exact hj, rfl⟩
    let α := { p : Value × List Int // PR w Z Zp (.sl (.int .i8)) p.2 [p.1] ∧ (0 < n0 → ∃ y, Fd (p.2, ys) = some y) }
    have hz0 : ∀ j, j < pcs n0 n2 ∨ j = 0 → PR w Z Zp (.sl (.int .i8)) ((xs.drop (j * n2)).take n2) [pieceV a0 n0 n2 j] ∧ (0 < n0 → ∃ y, Fd ((xs.drop (j * n2)).take n2, ys) = some y) := fun j hj => ⟨hK0 j, fun h => hpos h j (by
      rcases hj with hj | hj
      · exact hj
      · rw [hj]; exact (lt_pcs hg1).2 (by omega))⟩
    let fj : Nat → α := fun j => if h : j < pcs n0 n2 then ⟨(pieceV a0 n0 n2 j, (xs.drop (j * n2)).take n2), hz0 j (.inl h)⟩ else ⟨(pieceV a0 n0 n2 0, (xs.drop (0 * n2)).take n2), hz0 0 (.inr rfl)⟩
    let outs : List α → List Int := fun pre => (mapO (fun row => Fd (row, ys)) (pre.map fun x => x.1.2)).getD []
    obtain ⟨w4, hw4⟩ : ∃ w4, ((w2.alloc (.cells #[.slice none 0 0] 32)).alloc (.cells #[.slice a0 n0 cap0] 22)).alloc (.cells #[.int .i64 (n2 : Int)] 3) = w4 := ⟨_, rfl⟩
    have bO : Boxed w4 w2.heap.size 32 (.slice none 0 0) := by rw [← hw4]; exact ((Boxed.new w2 _ _).alloc _).alloc _
    have bS : Boxed w4 (w2.heap.size + 1) 22 (.slice a0 n0 cap0) := by rw [← hw4]; have := (Boxed.new (w2.alloc (.cells #[.slice none 0 0] 32)) 22 (.slice a0 n0 cap0)).alloc (.cells #[.int .i64 (n2 : Int)] 3); rwa [World.size_alloc] at this
    have bN : Boxed w4 (w2.heap.size + 1 + 1) 3 (.int .i64 (n2 : Int)) := by rw [← hw4]; have := Boxed.new ((w2.alloc (.cells #[.slice none 0 0] 32)).alloc (.cells #[.slice a0 n0 cap0] 22)) 3 (.int .i64 (n2 : Int)); rwa [World.size_alloc, World.size_alloc] at this
    have bX : Boxed w4 w.heap.size 22 (.slice a2 n2 cap2) := by rw [← hw4]; exact ((hbX.alloc _).alloc _).alloc _
    have hsz : w4.heap.size = w2.heap.size + 3 := by rw [← hw4]; simp
    have hB4 : Below w2.heap.size w2 w4 := by rw [← hw4]; exact (((Below.refl _ w2).alloc (Nat.le_refl _) _).alloc (by simp) _).alloc (by simp; omega) _
    have hwle : w.heap.size < w2.heap.size := by have := hext.size; simp at this; omega
    rw [hw4]
    have hstops := Tryz.chunk_stops (α := α) Fence.wide 4 trivial rfl (by omega) (w2.heap.size + 1) (w2.heap.size + 1 + 1) a0 n0 cap0 n2 (by rw [hn0.out]; exact hlc) hg3 hg1 hg2 (fun x => x.1.1) fj (by
      by_cases hn : n0 = 0
      · exact .inl hn
      · right
        have hne : us0 ≠ [] := by
          intro h
          rw [h] at hus
          have := (prl_int xs []).1 hus
          have hx : xs = [] := by simpa using this.symm
          have := hn0.out
          rw [hx] at this
          exact hn this
        obtain ⟨b, off, rfl, _⟩ := hat hne
        refine ⟨b, off, rfl, fun j hj => ?_⟩
        have hj' : j < pcs n0 n2 := (lt_pcs hg1).2 hj
        simp only [fj]
        rw [dif_pos hj']
        rfl) w4 (by omega) (by omega) bS.cell bN.cell
    refine wpIn_rangeFunc_ownG (F := Fence.wide) rfl (by omega) (gf := 115) (lb := #[.pointer (some ⟨w2.heap.size + 1, 0, none⟩), .pointer (some ⟨w2.heap.size + 1 + 1, 0, none⟩)]) rfl trivial (enters_of Tryz.func115 (by kernel_rfl) rfl)
      hstops KpC.trans (fun W l o o' hl hlo hoc _ => ⟨World.putObj_heap_other (by omega), World.putObj_heap_other (by omega)⟩) (Below.refl _ _) (fun _ => rfl)
      (fun pre W => (∃ v, Boxed W w2.heap.size 32 v ∧ W.ownsRow w2.heap.size 2 1 v (outs pre).length ((outs pre).map (Value.int .i64)) ∧ ∃ o, mapO (fun row => Fd (row, ys)) (pre.map fun x => x.1.2) = some o) ∧ Below w2.heap.size w2 W ∧ Boxed W (w2.heap.size + 1) 22 (.slice a0 n0 cap0) ∧ Boxed W (w2.heap.size + 1 + 1) 3 (.int .i64 (n2 : Int)))
      (fun _ _ _ => False)
      (OwnFrom.and (Own.from (holdsRow_own w2.heap.size w2.heap.size 32 2 1 (fun pre => (outs pre).length) (fun pre => (outs pre).map (Value.int .i64)) (fun pre v => ∃ o, mapO (fun row => Fd (row, ys)) (pre.map fun x => x.1.2) = some o)) _) (OwnFrom.and (ownFrom_below (Nat.le_refl _) (by omega)) (OwnFrom.and (Own.from (boxed_own (β := List α) _ _ (fun _ => _)) _) (Own.from (boxed_own (β := List α) _ _ (fun _ => _)) _))))
      (fun _ _ _ _ _ hs _ _ => hs)
      ⟨⟨_, bO, World.ownsRow_nil _ _ _ _, [], rfl⟩, hB4, bS, bN⟩
      (fun x => { tmps := #[Value.slice a0 n0 cap0, Value.int IntKind.i64 n2, Value.slice a2 n2 cap2, undef, undef,
          Value.pointer (some { block := w.heap.size, off := 0 }), Value.slice none 0 0, Value.int IntKind.i64 0,
          Value.int IntKind.i64 0, Value.pointer (some { block := w2.heap.size, off := 0 }), x.1.1,
          Value.slice a0 n0 cap0, Value.int IntKind.i64 n2, Value.int IntKind.i64 0, Value.int IntKind.i64 0,
          Value.bool false, undef, Value.slice a2 n2 cap2, Value.int IntKind.i64 n2, Value.int IntKind.i64 n2,
          Value.bool false, Value.slice a0 n0 cap0, Value.int IntKind.i64 n2,
          Value.func (Fn.func 115) #[]
            #[Value.pointer (some { block := w2.heap.size + 1, off := 0 }),
              Value.pointer (some { block := w2.heap.size + 1 + 1, off := 0 })],
          x.1.1, undef, undef, undef, undef, undef, undef, undef], defers := [] }) ?assign ?body ?done ?stop
    case assign =>
      intro l x W K hK
      gi_wp2
      exact hK
    case stop =>
      rintro D c pre W _ _ h _
      exact h.elim
    case body =>
      rintro l pre x W ⟨⟨v, hv, hrow, o, ho⟩, hB, bS', bN'⟩ hlt
      have hpre : pre.length < 1000000000 := by
        have h1 := (lt_pcs hg1).1 hlt
        have h2 : pre.length ≤ pre.length * n2 := Nat.le_mul_of_pos_right _ hg1
        omega
      have hol : (outs pre).length = pre.length := by
        simp only [outs]; rw [ho, Option.getD_some, mapO_len _ _ _ ho, List.length_map]
      have hn00 : 0 < n0 := by have := (lt_pcs hg1).1 hlt; omega
      obtain ⟨y, hy⟩ := x.2.2 hn00
      have hbX' : Boxed W w.heap.size 22 (.slice a2 n2 cap2) := (hB.block _ hwle).trans hbX
      have hcX' := hbX'.cell
      have hcO := hv.cell
      have hext1 : (w.alloc (.cells #[.slice a2 n2 cap2] 22)).Extends w2 := hext
      have hcell : ∀ b i, b < w.heap.size → W.cell? ⟨b, i, none⟩ = w.cell? ⟨b, i, none⟩ := fun b i hb => (World.cell?_of_block (hB.block b (by omega))).trans ((hext1.cell _ (by simp; omega)).trans (w1ext.cell _ hb))
      have hWsz : w.heap.size ≤ W.heap.size := by have := hB.size; omega
      have hdc := hd.calls W.drew Z Zp (x.1.2, ys) y [x.1.1, .slice a2 n2 cap2] (fun b i hb => Nat.lt_of_lt_of_le (hz b i hb) hWsz) (fun b i hb => Nat.lt_of_lt_of_le (hzp b i hb) hWsz)
        ⟨_, _, rfl, PR.mono (fun b i hb => ⟨hb, hcell b i (hz b i hb)⟩) (fun b i hb => ⟨hb, hcell b i (hzp b i hb)⟩) _ _ _ x.2.1, _, rfl, PR.mono (fun b i hb => ⟨hb, hcell b i (hz b i hb)⟩) (fun b i hb => ⟨hb, hcell b i (hzp b i hb)⟩) _ _ _ h2⟩ hy
      replace hdc : Calls Tryz.prog 96 #[x.1.1, .slice a2 n2 cap2] W.drew fun e w' => e = .returned (.int .i64 y) ∧ W.drew.Extends w' :=
        hdc.mono fun e w' ⟨v, he, hext, hres⟩ => ⟨by rw [he, vt_int (show VT w' (Znew Z W.drew w') noZone (.int .i64) y v from hres)], hext⟩
      have ho2 : mapO (fun row => Fd (row, ys)) ((pre ++ [x]).map fun x => x.1.2) = some (o ++ [y]) := by
        rw [List.map_append]; exact mapO_snoc _ _ _ _ _ ho hy
      have hou : outs (pre ++ [x]) = outs pre ++ [y] := by
        simp only [outs]; rw [ho2, ho]; rfl
      have hmx : Tryz.prog.follows .mixedOrders = true := by kernel_rfl
      obtain ⟨i0, hi, hz0, hz1, hz2⟩ := info_parts info2
      gi_wp2
      gi_region_with_o (refine ⟨trivial, ?_⟩; gi_at_call 96; refine (CallsIn.inRound l (callsIn_wide.2 hdc)).mono ?_; rintro e W5 ⟨rfl, hext5⟩; have hv5 := boxed_ext (W := W.drew) hext5 hv; have hrow5 := owns_ext (W := W.drew) hext5 hrow; have hcO5 := hv5.cell; have hcO6 := (hv5.alloc (.cells #[.int .i64 y] 2)).cell; have hsz5 : W.heap.size ≤ W5.heap.size := hext5.size; obtain ⟨v', w1, hrun, hown', hgrow, _⟩ := run_append_own (P := Tryz.prog) (w := W5.alloc (.cells #[.int .i64 y] 2)) w2.heap.size 32 32 2 i0 (.int .i64 0) 1 8 Tryz.underlying32 hi hz0 hz1 hz2 rfl (by decide) v _ _ (hrow5.alloc _) ⟨W5.heap.size, 0, none⟩ 1 1 [.int .i64 y] rfl (cell_one_new _ _ _) (by simp [Value.oneCell']) (by rw [hol]; unfold maxLen; omega) (by omega) (by have := hB.size; simp; omega); obtain ⟨g', cap', rfl⟩ := ownsRow_succ hown'; obtain ⟨hv1, hv2, hr2, hk2, hb2⟩ := hv5.appended (by decide) hrow5 (by have := hB.size; omega) (Nat.le_refl _) hown' hgrow; have hc1 := hv1.cell; have hf1 := hv1.frozen; simp [go_sem] at hrun)
      all_goals clear hrun
      all_goals rw [← hol]
      all_goals have hk5 : KeepsOthers W W5 := ⟨hsz5, fun k o hk _ => (hext5.block k (Array.getElem?_eq_some_iff.1 hk).1).trans hk⟩
      all_goals have hb5 : Below w2.heap.size W W5 := ⟨hext5.os, hext5.tape, hext5.output, hsz5, fun k hk => hext5.block k (by have := hB.size; show k < W.heap.size; omega)⟩
      all_goals have bS5 := boxed_ext (W := W.drew) hext5 bS'
      all_goals have bN5 := boxed_ext (W := W.drew) hext5 bN'
      all_goals have bS6 := ((bS5.alloc _).kept hgrow (bS5.not_row (by decide) hrow5)).other (B' := w2.heap.size) (by omega) (.slice (some ⟨g', 0, none⟩) ((outs pre).length + 1) cap')
      all_goals have bN6 := ((bN5.alloc _).kept hgrow (bN5.not_row (by decide) hrow5)).other (B' := w2.heap.size) (by omega) (.slice (some ⟨g', 0, none⟩) ((outs pre).length + 1) cap')
      all_goals exact ⟨(hk5.trans hk2).from _, ⟨bS6.trans bS'.symm, bN6.trans bN'.symm⟩, ⟨_, hv2, by rw [hou]; simpa using hr2, _, ho2⟩, hB.trans (hb5.trans hb2), bS6, bN6⟩
    case done =>
      rintro D pre W hD rfl ⟨⟨v, hv, hrow, o, ho⟩, hB, bS', bN'⟩ hK
      have hc := hv.cell
      gi_wp2
      refine ⟨by simp, .inl ⟨_, _, rfl, run_takeDeferred hK, ?_⟩⟩
      refine ⟨_, results_tmp2 rfl _ _ _, ?_⟩
      have hD0 : w2.heap.size ≤ D := by omega
      have hfin : w.Extends (W.putObj D (.deferred none)) := by
        refine ext_blocks (w1ext.trans hext) (hB.os) (hB.tape) (hB.output) (by have := hB.size; simp; omega) fun i hi => ?_
        rw [World.putObj_heap_other (by omega)]
        exact hB.block i (by omega)
      have hch : ((upto fj (pcs n0 n2)).map fun x => x.1.2) = chunks ys.length xs := by
        simp only [chunks, upto, List.map_map]
        rw [← hn2.out, ← hn0.out]
        refine List.map_congr_left fun j hj => ?_
        have hj := List.mem_range.1 hj
        simp only [Function.comp, fj]
        rw [dif_pos hj]
      have hout : outs (upto fj (pcs n0 n2)) = out0 := by
        simp only [outs]
        rw [hch, hout0]; rfl
      rw [hout] at hrow
      exact retS hfin (owns_pr (by omega) (ownsRow_putObj hrow _ hK rfl)) rfl

theorem times_psound {Fm : List Int × Int → Option Int} {Fd : List Int × List Int → Option Int} (hm : PSound Tryz.prog 94 ⟨[.sl (.int .i8), .int .i64], [.int .i64], Fm⟩) (hd : PSound Tryz.prog 96 ⟨[.sl (.int .i8), .sl (.int .i8)], [.int .i64], Fd⟩) :
    PSound Tryz.prog 54 ⟨[.sl (.int .i8), .int .i64, .sl (.int .i8)], [.sl (.int .i64), .int .i64], timesF Fm Fd⟩ := by
  refine ⟨⟨f54, func54, by kernel_rfl, by kernel_rfl⟩, rfl, fun w Z Zp x r args hz hzp ha e => ?_⟩
  obtain ⟨v0, _, rfl, h0, v1, _, rfl, h1, v2, rfl, h2⟩ := ha
  have h1 : v1 = .int .i64 x.2.1 := vt_int h1
  subst h1
  exact times_calls hm hd w Z Zp x.1 x.2.1 x.2.2 r v0 v2 hz hzp h0 h2 e
end Tryz
end Go.Proofs
