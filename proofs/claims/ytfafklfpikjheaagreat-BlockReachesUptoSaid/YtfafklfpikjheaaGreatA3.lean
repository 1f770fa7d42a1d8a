import Derived.Test.YtfafklfpikjheaaGreatA2
import Derived.Great.FillDense
import Derived.Great.BuildSlice
import Derived.Laws.MakeOwn
set_option linter.unusedVariables false
set_option linter.unusedSimpArgs false
/- The abstract machine: freezing, slicing, lengths, results' parts. -/
namespace Go.Am
open Go

section
variable {P : Program} {w0 w : World} {Z0 Zp : Zone} {h h' : Heap} {g : G} {new next base : Nat} {r : A} {L L' : Log} {X : Cx}

/-- a row as a slice that is data, in a zone that holds the row's block -/
theorem row_PR {Z Z' : Zone} {e : Ty} {l : List e.den} {b : Nat} {cur : Array Value} {e0 : TypeId} {fz : Nat × Nat} (hcur : w.heap[b]? = some (.cells cur e0 fz)) (hpr : PRL (PR w Z Zp e) l cur.toList)
    (hz : ∀ c i, Z c i → Z' c i) (hzb : ∀ i, i < cur.size → Z' b i) : PR w Z' Zp (.sl e) l [.slice (some ⟨b, 0, none⟩) (List.length l) (List.length l)] :=
  ⟨_, _, cur.toList, rfl, Nat.le_refl _, PRL.mono (fun x es hx => PR.mono (fun c i h => ⟨hz c i h, rfl⟩) (Keeps.refl _ _) e x es hx) _ _ hpr,
    fun _ => ⟨b, 0, rfl, fun j u hj => by
      have hj' : cur[j]? = some u := by simpa using hj
      rw [Nat.zero_add]
      exact ⟨by rw [cell_block hcur]; exact hj', hzb j (Array.getElem?_eq_some_iff.1 hj').1⟩⟩⟩

/-- what is frozen for good -/
theorem freezeC_true (R : HR w0 Z0 Zp h g w) {c : C} {v : Value} (hc : CR w w0.heap.size Zp h g c v) {k : C → HM} {res : A × Heap × Log} (e : (freezeC true c k).eval next h L = some res) :
    ∃ c' h1 g1 L1, (k c').eval next h1 L1 = some res ∧ HR w0 Z0 Zp h1 g1 w ∧ Le Zp h g w h1 g1 w ∧ g1.al = g.al ∧ CR w w0.heap.size Zp h1 g1 c' v := by
  cases c
  case vec o =>
    simp only [freezeC] at e
    have e := eval_get e
    obtain ⟨hal, hs, hr⟩ := hc
    split at e
    · rename_i ety l ho
      have e := eval_set e
      obtain ⟨g1, R1, L1, hg1⟩ := R.freeze ho
      have hob := R1.ob o
      rw [look_cons, if_pos rfl] at hob
      obtain ⟨h0, h00, b, cur, e0, fz, hb, hcur, hpr, hz⟩ := hob
      obtain ⟨b', hb', rfl⟩ := hr ety (List.length l) (by rw [ho]; rfl)
      have : b' = b := by
        have := L1.hm o hal (by rw [look_cons, if_pos rfl]; simp)
        rw [this, hb'] at hb; cases hb; rfl
      subst this
      exact ⟨_, _, g1, _, e, R1, L1, hg1, row_PR hcur hpr (fun _ _ h => h) hz, trivial⟩
    · rename_i ety l ho
      have hob := R.ob o
      rw [ho] at hob
      obtain ⟨h0, h00, b, cur, e0, fz, hb, hcur, hpr, hz⟩ := hob
      obtain ⟨b', hb', rfl⟩ := hr ety (List.length l) (by rw [ho]; rfl)
      rw [hb'] at hb; cases hb
      exact ⟨_, _, g, _, e, R, Le.refl _ _ _ _, rfl, row_PR hcur hpr (fun _ _ h => h) hz, trivial⟩
    · exact (eval_fail e).elim
  case sl ety l t => exact ⟨_, h, g, L, e, R, Le.refl _ _ _ _, rfl, hc.1, trivial⟩
  all_goals exact ⟨_, h, g, L, e, R, Le.refl _ _ _ _, rfl, hc⟩

theorem freezeCs_true : ∀ (cs : List C) (vs : List Value) (h : Heap) (g : G) (L : Log) (k : List C → HM) (res : A × Heap × Log), HR w0 Z0 Zp h g w → CRs w w0.heap.size Zp h g cs vs → (freezeCs true cs k).eval next h L = some res →
    ∃ cs' h1 g1 L1, (k cs').eval next h1 L1 = some res ∧ HR w0 Z0 Zp h1 g1 w ∧ Le Zp h g w h1 g1 w ∧ g1.al = g.al ∧ CRs w w0.heap.size Zp h1 g1 cs' vs
  | [], vs, h, g, L, k, res, R, hc, e => ⟨[], h, g, L, e, R, Le.refl _ _ _ _, rfl, hc⟩
  | c :: cs, vs, h, g, L, k, res, R, hc, e => by
    obtain ⟨v, rest, rfl, h1, h2⟩ := hc
    obtain ⟨c', h3, g3, L3, e3, R3, Le3, hg3, hc3⟩ := freezeC_true R h1 e
    obtain ⟨cs', h4, g4, L4, e4, R4, Le4, hg4, hc4⟩ := freezeCs_true cs rest h3 g3 L3 _ res R3 (CRs.mono Le3 _ _ h2) e3
    exact ⟨c' :: cs', h4, g4, L4, e4, R4, Le3.trans Le4, hg4.trans hg3, ⟨v, rest, rfl, CR.mono Le4 _ _ hc3, hc4⟩⟩

/-- the zone with all own rows -/
def withRows (h : Heap) (g : G) (w : World) : G :=
  { g with Z := fun b i => g.Z b i ∨ ∃ o e, ∃ l : List (Ty.den e), look .dead o h = .row e l ∧ g.hm o = some b ∧ (w.cell? ⟨b, i, none⟩).isSome = true }

theorem withRows_keeps (h : Heap) (g : G) (w : World) : Keeps w w g.Z (withRows h g w).Z := fun _ _ hz => ⟨.inl hz, rfl⟩

theorem withRows_le (h : Heap) (g : G) (w : World) : Le Zp h g w h (withRows h g w) w :=
  ⟨fun _ h => h, withRows_keeps h g w, Keeps.refl _ _, fun _ _ => Ob.to.refl _, fun _ _ _ => rfl, fun _ _ _ => ⟨rfl, fun _ _ => rfl⟩⟩

/-- what is read for a while -/
theorem freezeC_false (R : HR w0 Z0 Zp h g w) {c : C} {v : Value} (hc : CR w w0.heap.size Zp h g c v) {k : C → HM} {res : A × Heap × Log} (e : (freezeC false c k).eval next h L = some res) :
    ∃ c' L1, (k c').eval next h L1 = some res ∧ CR w w0.heap.size Zp h (withRows h g w) c' v := by
  cases c
  case vec o =>
    simp only [freezeC] at e
    have e := eval_get e
    obtain ⟨hal, hs, hr⟩ := hc
    split at e
    · rename_i ety l ho
      have hob := R.ob o
      rw [ho] at hob
      obtain ⟨h0, h00, b, cur, e0, hb, hcur, hpr⟩ := hob
      obtain ⟨b', hb', rfl⟩ := hr ety (List.length l) (by rw [ho]; rfl)
      rw [hb'] at hb; cases hb
      exact ⟨_, _, e, row_PR hcur hpr (fun _ _ h => .inl h) (fun i hi => .inr ⟨o, ety, l, ho, hb', by rw [cell_block hcur]; simp [hi]⟩), trivial⟩
    · rename_i ety l ho
      have hob := R.ob o
      rw [ho] at hob
      obtain ⟨h0, h00, b, cur, e0, fz, hb, hcur, hpr, hz⟩ := hob
      obtain ⟨b', hb', rfl⟩ := hr ety (List.length l) (by rw [ho]; rfl)
      rw [hb'] at hb; cases hb
      exact ⟨_, _, e, row_PR hcur hpr (fun _ _ h => .inl h) (fun i hi => .inl (hz i hi)), trivial⟩
    · exact (eval_fail e).elim
  case sl ety l t => exact ⟨_, L, e, PR.mono (withRows_keeps h g w) (Keeps.refl _ _) _ _ _ hc.1, trivial⟩
  all_goals exact ⟨_, L, e, CR.mono (withRows_le h g w) _ _ hc⟩

theorem freezeCs_false (R : HR w0 Z0 Zp h g w) : ∀ (cs : List C) (vs : List Value) (L : Log) (k : List C → HM) (res : A × Heap × Log), CRs w w0.heap.size Zp h g cs vs → (freezeCs false cs k).eval next h L = some res →
    ∃ cs' L1, (k cs').eval next h L1 = some res ∧ CRs w w0.heap.size Zp h (withRows h g w) cs' vs
  | [], vs, L, k, res, hc, e => ⟨[], L, e, hc⟩
  | c :: cs, vs, L, k, res, hc, e => by
    obtain ⟨v, rest, rfl, h1, h2⟩ := hc
    obtain ⟨c', L3, e3, hc3⟩ := freezeC_false R h1 e
    obtain ⟨cs', L4, e4, hc4⟩ := freezeCs_false R cs rest L3 _ res h2 e3
    exact ⟨c' :: cs', L4, e4, ⟨v, rest, rfl, hc3, hc4⟩⟩

/-! ### lengths -/

theorem lenM_sim (_ : HR w0 Z0 Zp h g w) {x : A} {v : Value} (hx : AR w w0.heap.size Zp h g x v) (e : (lenM x).eval next h L = some (r, h', L')) :
    h' = h ∧ ∃ (n : Nat) (a : Option Addr) (c : Nat), v = .slice a n c ∧ r = .v false [.int .i64 n] := by
  unfold lenM at e
  split at e
  · obtain ⟨rfl, rfl, _⟩ := eval_retI e
    obtain ⟨⟨bs, cap, us, hv, _⟩, _⟩ := hx.c
    simp at hv
    exact ⟨rfl, _, _, _, hv, rfl⟩
  · obtain ⟨rfl, rfl, _⟩ := eval_retI e
    have := hx.c
    simp only [CR] at this
    exact ⟨rfl, 0, _, _, this, rfl⟩
  · rename_i o
    have e := eval_get e
    obtain ⟨hal, hs, hr⟩ := hx.c
    split at e
    · rename_i ety l ho
      obtain ⟨rfl, rfl, _⟩ := eval_retI e
      obtain ⟨b, _, rfl⟩ := hr ety (List.length l) (by rw [ho]; rfl)
      exact ⟨rfl, _, _, _, rfl, rfl⟩
    · rename_i ety l ho
      obtain ⟨rfl, rfl, _⟩ := eval_retI e
      obtain ⟨b, _, rfl⟩ := hr ety (List.length l) (by rw [ho]; rfl)
      exact ⟨rfl, _, _, _, rfl, rfl⟩
    · exact (eval_fail e).elim
  · exact (eval_fail e).elim

/-! ### slicing -/

theorem slc_some {α : Type} {l m : List α} {a b : Int} (hs : slc l a b = some m) : 0 ≤ a ∧ a ≤ b ∧ b ≤ l.length ∧ m = (l.take b.toNat).drop a.toNat := by
  unfold slc at hs
  split at hs
  · rename_i hb; cases hs; exact ⟨hb.1, hb.2.1, hb.2.2, rfl⟩
  · cases hs

/-- a bound of a slice expression -/
theorem bnd_sim {x : Option A} {v : Option Value} {d n : Int} (hx : match x, v with | none, none => True | some a, some u => AR w base Zp h g a u | _, _ => False) (e : bnd x d = some n) :
    (v = none ∧ n = d) ∨ ∃ k, v = some (.int k n) := by
  unfold bnd at e
  split at e
  · cases e
    cases v with
    | none => exact .inl ⟨rfl, rfl⟩
    | some _ => exact hx.elim
  · rename_i k m
    cases e
    cases v with
    | none => exact hx.elim
    | some u => have := AR.c hx; simp only [CR] at this; exact .inr ⟨k, by rw [this]⟩
  · cases e

theorem sliceBound_ok {k : IntKind} {n : Int} {y : Nat} {code : BoundsCode} (h0 : 0 ≤ n) (h1 : n ≤ y) : (Instr.sliceBound (.int k n) y code).run P w = .ok n.toNat w := by
  simp [Instr.sliceBound, asIntOf, h0, h1]

theorem sliceBounds_ok {isS : Bool} {len cap : Nat} {lo hi : Option Value} {a b : Int} (hlen : len ≤ cap) (h0 : 0 ≤ a) (h1 : a ≤ b) (h2 : b ≤ len)
    (hlo : (lo = none ∧ a = 0) ∨ ∃ k, lo = some (.int k a)) (hhi : (hi = none ∧ b = len) ∨ ∃ k, hi = some (.int k b)) :
    (Instr.sliceBounds isS len cap lo hi none).run P w = .ok (a.toNat, b.toNat, cap) w := by
  have hbt : ((b.toNat : Nat) : Int) = b := by omega
  have hb : ∀ (code : BoundsCode) (k : IntKind), (Instr.sliceBound (.int k b) cap code).run P w = .ok b.toNat w := fun code k => sliceBound_ok (by omega) (by omega)
  have ha : ∀ (code : BoundsCode) (k : IntKind), (Instr.sliceBound (.int k a) b.toNat code).run P w = .ok a.toNat w := fun code k => sliceBound_ok h0 (by omega)
  rcases hlo with ⟨rfl, rfl⟩ | ⟨k1, rfl⟩ <;> rcases hhi with ⟨rfl, rfl⟩ | ⟨k2, rfl⟩
  · simp [Instr.sliceBounds]
  · simp [Instr.sliceBounds, hb]
  · have h3 := fun code => ha code k1
    rw [Int.toNat_natCast] at h3
    simp [Instr.sliceBounds, h3]
  · simp [Instr.sliceBounds, hb, ha]

theorem sliceBounds_max {isS : Bool} {len cap : Nat} {lo hi : Option Value} {a b m : Int} {km : IntKind} {kb : IntKind} (hm : m ≤ cap) (h0 : 0 ≤ a) (h1 : a ≤ b) (h2 : b ≤ m)
    (hlo : (lo = none ∧ a = 0) ∨ ∃ k, lo = some (.int k a)) (hhi : hi = some (.int kb b)) :
    (Instr.sliceBounds isS len cap lo hi (some (.int km m))).run P w = .ok (a.toNat, b.toNat, m.toNat) w := by
  have hmm : ∀ (code : BoundsCode), (Instr.sliceBound (.int km m) cap code).run P w = .ok m.toNat w := fun code => sliceBound_ok (by omega) (by omega)
  have hb : ∀ (code : BoundsCode), (Instr.sliceBound (.int kb b) m.toNat code).run P w = .ok b.toNat w := fun code => sliceBound_ok (by omega) (by omega)
  have ha : ∀ (code : BoundsCode) (k : IntKind), (Instr.sliceBound (.int k a) b.toNat code).run P w = .ok a.toNat w := fun code k => sliceBound_ok h0 (by omega)
  subst hhi
  rcases hlo with ⟨rfl, rfl⟩ | ⟨k1, rfl⟩ <;> simp [Instr.sliceBounds] <;> rw [hmm] <;> simp <;> rw [hb] <;> simp
  rw [ha]; simp

theorem PRL.take_drop {α : Type} {R : α → List Value → Prop} {k : Nat} (hk : ∀ x es, R x es → es.length = k) : ∀ (n : Nat) (l : List α) (vs : List Value), PRL R l vs → PRL R (l.take n) (vs.take (n * k)) ∧ PRL R (l.drop n) (vs.drop (n * k))
  | 0, l, vs, hh => by simp [PRL]; exact hh
  | n + 1, [], vs, hh => by simp [PRL] at hh; subst hh; simp [PRL]
  | n + 1, x :: l, vs, ⟨es, rest, e, h1, h2⟩ => by
    have h3 := hk _ _ h1
    have h4 : (n + 1) * k = es.length + n * k := by rw [h3, Nat.add_mul]; omega
    subst e
    obtain ⟨h5, h6⟩ := PRL.take_drop hk n l rest h2
    rw [h4, List.take_length_add_append, List.drop_length_add_append]
    exact ⟨⟨es, _, rfl, h1, h5⟩, h6⟩

/-- a piece of a slice that is data -/
theorem slc_PR {Z : Zone} {e : Ty} {l : List e.den} {bs : Option Addr} {cap : Nat} (hp : PR w Z Zp (.sl e) l [.slice bs (List.length l) cap]) {a b : Nat} (hab : a ≤ b) (hb : b ≤ List.length l) (m : Nat) (hm : b ≤ m) (_ : 0 < e.size) :
    PR w Z Zp (.sl e) ((List.take b l).drop a : List e.den) [.slice (if m = a then bs else bs.map (·.add (a * e.size))) (b - a) (m - a)] := by
  obtain ⟨bs', cap', us, hv, hcap, hpl, hat⟩ := hp
  simp at hv
  obtain ⟨rfl, rfl⟩ := hv
  have hk := PR.k (w := w) (Z := Z) (Zp := Zp) e
  have h1 := (PRL.take_drop hk b l us hpl).1
  have h2 := (PRL.take_drop hk a _ _ h1).2
  have hlen : List.length ((List.take b l).drop a) = b - a := by simp; omega
  refine ⟨_, _, _, by rw [hlen], by rw [hlen]; omega, h2, fun hne => ?_⟩
  have hus : us ≠ [] := by intro h0; subst h0; simp at hne
  obtain ⟨b0, off, rfl, hc⟩ := hat hus
  have hma : m ≠ a := by
    intro hma
    have hba : b = a := by omega
    apply hne
    rw [List.drop_eq_nil_iff, List.length_take, hba]
    exact Nat.min_le_left _ _
  refine ⟨b0, off + a * e.size, by simp [hma, addr_add], fun j u hj => ?_⟩
  have hj2 : us[a * e.size + j]? = some u := by
    rw [List.getElem?_drop, List.getElem?_take] at hj
    split at hj
    · exact hj
    · cases hj
  have := hc _ _ hj2
  rw [Nat.add_assoc]
  exact this

theorem optRel_map {a : Act} {env : Env} (he : ∀ t, AR w base Zp h g (look undefA t env) (a.tmps.getD t undef)) (x : Option Operand) :
    match x.map (rho env), x.map a.eval with | none, none => True | some a, some u => AR w base Zp h g a u | _, _ => False := by
  cases x with
  | none => trivial
  | some x => exact rho_AR he x

end
end Go.Am

/- The abstract machine: operations one by one. -/
namespace Go.Am
open Go

section
variable {P : Program} {w0 w : World} {Z0 Zp : Zone} {h h' : Heap} {g : G} {new next base : Nat} {r : A} {L L' : Log} {X : Cx}

theorem toBeq {a b : Bool} (h : (a == b) = true) : a = b := by simpa using h

theorem sliceM_sim (hX : XOK P X.tt) (R : HR w0 Z0 Zp h g w) {t : TypeId} {d : TD} (T : TOK P t d) {x : A} {vx : Value} {lo hi mx : Option A} {vlo vhi vmx : Option Value}
    (hx : AR w w0.heap.size Zp h g x vx)
    (hlo : match lo, vlo with | none, none => True | some a, some u => AR w w0.heap.size Zp h g a u | _, _ => False)
    (hhi : match hi, vhi with | none, none => True | some a, some u => AR w w0.heap.size Zp h g a u | _, _ => False)
    (hmx : match mx, vmx with | none, none => True | some a, some u => AR w w0.heap.size Zp h g a u | _, _ => False)
    (e : (sliceM X d x lo hi mx).eval next h L = some (r, h', L')) :
    ∃ u g', (Instr.sliceAt t vx vlo vhi vmx).run P w = .ok u w ∧ HR w0 Z0 Zp h' g' w ∧ Le Zp h g w h' g' w ∧ g'.al = g.al ∧ AR w w0.heap.size Zp h' g' r u := by
  unfold sliceM at e
  split at e
  · rename_i hd
    have hmx' : vmx = none := by cases vmx with | none => rfl | some _ => exact hmx.elim
    subst hmx'
    split at e
    · rename_i s
      have hs := hx.c
      simp only [CR] at hs
      subst hs
      split at e
      · rename_i a b ha hb
        obtain ⟨m, hm, e⟩ := eval_opt e
        obtain ⟨rfl, rfl, _⟩ := eval_retC e
        obtain ⟨h0, h1, h2, rfl⟩ := slc_some hm
        have hb2 := bnd_sim hhi hb
        refine ⟨_, g, ?_, R, Le.refl _ _ _ _, rfl, AR.ofC (v := .string ((⟨s.toArray⟩ : ByteArray).extract a.toNat b.toNat)) ?_⟩
        · have := sliceBounds_ok (P := P) (w := w) (isS := false) (len := s.length) (cap := s.length) (Nat.le_refl _) h0 h1 h2 (bnd_sim hlo ha) hb2
          simp [Instr.sliceAt, Instr.slice, run_underlying (T.string hd), str_size, this]
        · simp only [CR]
          congr 1
          apply ByteArray.ext
          apply Array.ext'
          simp [List.drop_take]
      · exact (eval_fail e).elim
    · exact (eval_fail e).elim
  · rename_i te hd
    have hmx' : vmx = none := by cases vmx with | none => rfl | some _ => exact hmx.elim
    subst hmx'
    split at e
    · rename_i c
      obtain ⟨c', h1, g1, L1, e, R1, Le1, hg1, hc1⟩ := freezeC_true R hx.c e
      split at e
      · rename_i ety l tk
        split at e
        · rename_i hse
          obtain ⟨hpos, hso⟩ := sizeIs_spec hX hse
          split at e
          · rename_i a b ha hb
            obtain ⟨m, hm, e⟩ := eval_opt e
            obtain ⟨rfl, rfl, _⟩ := eval_retC e
            obtain ⟨h0, h1, h2, rfl⟩ := slc_some hm
            obtain ⟨hp, _⟩ := hc1
            have hp2 := hp
            obtain ⟨bs, cap, us, hv, hcap, _⟩ := hp2
            simp at hv
            subst hv
            have hsl := slc_PR (w := w) (Zp := Zp) hp (a := a.toNat) (b := b.toNat) (by omega) (by omega) cap (by omega) hpos
            refine ⟨_, g1, ?_, R1, Le1, hg1, AR.ofC ⟨hsl, trivial⟩⟩
            have := sliceBounds_ok (P := P) (w := w) (isS := true) (len := List.length l) (cap := cap) hcap h0 h1 h2 (bnd_sim hlo ha) (bnd_sim hhi hb)
            simp [Instr.sliceAt, Instr.slice, run_underlying (T.slice hd), this, hso]
          · exact (eval_fail e).elim
        · exact (eval_fail e).elim
      · exact (eval_fail e).elim
    · exact (eval_fail e).elim
  · rename_i te m0 hd
    obtain ⟨um, rfl⟩ : ∃ um, vmx = some um := by cases vmx with | none => exact hmx.elim | some u => exact ⟨u, rfl⟩
    split at e
    · rename_i c
      obtain ⟨c', h1, g1, L1, e, R1, Le1, hg1, hc1⟩ := freezeC_true R hx.c e
      split at e
      · rename_i ety l tk
        split at e
        · rename_i hse
          obtain ⟨hpos, hso⟩ := sizeIs_spec hX hse
          split at e
          · rename_i a b m ha hb hm0
            obtain ⟨_, hmm, e⟩ := eval_opt e
            obtain ⟨m2, hm, e⟩ := eval_opt e
            obtain ⟨rfl, rfl, _⟩ := eval_retC e
            obtain ⟨h0, h1, h2, rfl⟩ := slc_some hm
            obtain ⟨h3, h4, h5, _⟩ := slc_some hmm
            obtain ⟨hp, _⟩ := hc1
            have hp2 := hp
            obtain ⟨bs, cap, us, hv, hcap, _⟩ := hp2
            simp at hv
            subst hv
            have hsl := slc_PR (w := w) (Zp := Zp) hp (a := a.toNat) (b := b.toNat) (by omega) (by omega) m.toNat (by omega) hpos
            rcases bnd_sim (x := some m0) (v := some um) hmx hm0 with ⟨h6, _⟩ | ⟨km, h6⟩
            · cases h6
            cases h6
            cases hi with
            | none => cases hb
            | some hi0 =>
            cases vhi with
            | none => exact hhi.elim
            | some vhi0 =>
            rcases bnd_sim (x := some hi0) (v := some vhi0) hhi hb with ⟨h6, _⟩ | ⟨kb, h6⟩
            · cases h6
            · cases h6
              refine ⟨_, g1, ?_, R1, Le1, hg1, AR.ofC ⟨hsl, trivial⟩⟩
              have := sliceBounds_max (P := P) (w := w) (isS := true) (len := List.length l) (cap := cap) (km := km) (kb := kb) (m := m) (a := a) (b := b) (by omega) h0 h1 h4 (bnd_sim hlo ha) rfl
              simp [Instr.sliceAt, Instr.slice, run_underlying (T.slice hd), this, hso]
          · exact (eval_fail e).elim
        · exact (eval_fail e).elim
      · exact (eval_fail e).elim
    · exact (eval_fail e).elim
  · exact (eval_fail e).elim

/-! ### new blocks -/

theorem heap_new (w : World) (o : Obj) : (w.alloc o).heap[w.heap.size]? = some o := by
  show (w.heap.push o)[w.heap.size]? = some o
  simp

/-- the world w or w behind a draw: its heap is the same -/
def Like (w w1 : World) : Prop := w1 = w ∨ w1 = w.drew

theorem Like.heap {w1 : World} (hl : Like w w1) : w1.heap = w.heap := by rcases hl with rfl | rfl <;> rfl
theorem Like.ext {w1 : World} (hl : Like w w1) (he : w0.Extends w) : w0.Extends w1 := by
  rcases hl with rfl | rfl
  · exact he
  · exact he.drew

theorem OpSim.alloc (R : HR w0 Z0 Zp h g w) (hn : ¬ g.al new) {res : Sem Next} {w1 : World} (hl : Like w w1) {cur : Array Value} {e0 : TypeId} {v : Value} (x : Ob) (k : Nat)
    (hr : res.run P w = .ok (.value v) (w1.alloc (.cells cur e0)))
    (hx : Le Zp h g w ((new, x) :: h) (newG g new (some w.heap.size) k) (w1.alloc (.cells cur e0)) →
      (w1.alloc (.cells cur e0)).heap[w.heap.size]? = some (.cells cur e0 (0, 0)) →
      ObR (w1.alloc (.cells cur e0)) w0.heap.size Zp ((new, x) :: h) (newG g new (some w.heap.size) k) new x ∧
      AR (w1.alloc (.cells cur e0)) w0.heap.size Zp ((new, x) :: h) (newG g new (some w.heap.size) k) r v)
    (ho : x.open? = true → k = 0) : OpSim P w0 Z0 Zp h g w new res r ((new, x) :: h) := by
  have hw : (w1.alloc (.cells cur e0)).heap = w.heap.push (.cells cur e0) := by
    show w1.heap.push _ = _
    rw [hl.heap]
  have Le1 := Le.alloc R hn x k hw
  have hnew : (w1.alloc (.cells cur e0)).heap[w.heap.size]? = some (.cells cur e0 (0, 0)) := by rw [hw]; simp
  obtain ⟨h1, h2⟩ := hx Le1 hnew
  exact ⟨_, v, _, _, hr, .inl rfl, R.alloc hn x k hw ((hl.ext R.ext).alloc _) h1 ho, Le1, h2, fun o ho => ho⟩

theorem hm_new (g : G) (new : Nat) (b : Option Nat) (k : Nat) : (newG g new b k).hm new = b := upd_same _ _ _
theorem lo_new (g : G) (new : Nat) (b : Option Nat) (k : Nat) : (newG g new b k).lo new = k := upd_same _ _ _
theorem look_new (new : Nat) (x : Ob) (h : Heap) : look .dead new ((new, x) :: h) = x := by rw [look_cons, if_pos rfl]

theorem zcells_CRs {base : Nat} : ∀ τ : Ty, CRs w base Zp h g τ.zcells τ.zvals
  | .bool => ⟨_, [], rfl, rfl, rfl⟩
  | .int _ => ⟨_, [], rfl, rfl, rfl⟩
  | .str => ⟨_, [], rfl, rfl, rfl⟩
  | .sl _ => ⟨_, [], rfl, rfl, rfl⟩
  | .pair a b => CRs.append _ _ _ _ (zcells_CRs a) (zcells_CRs b)
  | .unit => rfl
  | .ref _ => ⟨_, [], rfl, rfl, rfl⟩
  | .fn _ => ⟨_, [], rfl, rfl, rfl⟩

theorem alloc_sim (R : HR w0 Z0 Zp h g w) (hn : ¬ g.al new) {t : TypeId} {d : TD} (T : TOK P t d) {τ : Ty} (hz : d.zero = true) (hτ : d.ty = some τ) :
    OpSim P w0 Z0 Zp h g w new (do pure (.value (← Instr.alloc t true (.tuple #[])))) (.v false [.ptr new 0]) ((new, .cells τ.zcells) :: h) := by
  obtain ⟨i, z, hi, _, _, hiz, hzv, _⟩ := T.zeroV hz hτ
  refine OpSim.alloc R hn (w1 := w) (.inl rfl) (cur := z.cells) (e0 := t) (v := .pointer (some ⟨w.heap.size, 0, none⟩)) _ 0 ?_ (fun L1 hnew => ⟨⟨_, _, _, hm_new _ _ _ _, hnew, ?_⟩, AR.ofC ⟨.inr rfl, ⟨_, rfl⟩, fun _ => ⟨_, hm_new _ _ _ _, rfl⟩⟩⟩) (fun _ => rfl)
  · simp [Instr.alloc, zeroValue, typeInfo, hi, hiz, newVar, newRow, newObj, Sem.run]
  · rw [hzv]; exact zcells_CRs τ

theorem cells_of_VR {base : Nat} {gg : Bool} {cs : List C} {v : Value} (hk : cs.all C.known = true) (hh : VR w base Zp h g gg cs v) : CRs w base Zp h g cs v.cells.toList := by
  cases gg with
  | true => obtain ⟨vs, rfl, h1⟩ := hh; simpa [Value.cells] using h1
  | false =>
    have h1 : v.oneCell' = true := CRs.one cs [v] hk hh v (by simp)
    have : v.cells = #[v] := by cases v <;> simp [Value.oneCell'] at h1 <;> rfl
    rw [this]; exact hh

theorem box_sim (R : HR w0 Z0 Zp h g w) (hn : ¬ g.al new) {t : TypeId} {gg : Bool} {cs : List C} {v : Value} (hk : cs.all C.known = true) (hh : VR w w0.heap.size Zp h g gg cs v) :
    OpSim P w0 Z0 Zp h g w new (do pure (.value (← Instr.box t v))) (.v false [.ptr new 0]) ((new, .cells cs) :: h) := by
  refine OpSim.alloc R hn (w1 := w) (.inl rfl) (cur := v.cells) (e0 := t) (v := .pointer (some ⟨w.heap.size, 0, none⟩)) _ 0 ?_ (fun L1 hnew => ⟨⟨_, _, _, hm_new _ _ _ _, hnew, ?_⟩, AR.ofC ⟨.inr rfl, ⟨_, rfl⟩, fun _ => ⟨_, hm_new _ _ _ _, rfl⟩⟩⟩) (fun _ => rfl)
  · simp [Instr.box, newVar, newRow, newObj, Sem.run]
  · exact CRs.mono L1 _ _ (cells_of_VR hk hh)

end
end Go.Am

/- The abstract machine: stores, makes, literals, appends. -/
namespace Go.Am
open Go

section
variable {P : Program} {w0 w w' : World} {Z0 Zp : Zone} {h h' : Heap} {g : G} {new next base : Nat} {r : A} {L L' : Log} {X : Cx}

theorem ext_blocks (he : w0.Extends w) (h1 : w'.os = w.os) (h2 : w'.tape = w.tape) (h3 : w'.output = w.output) (h4 : w.heap.size ≤ w'.heap.size) (hb : ∀ i : Nat, i < w0.heap.size → w'.heap[i]? = w.heap[i]?) : w0.Extends w' := by
  have hb' : ∀ i : Nat, i < w0.heap.size → w'.heap[i]? = w0.heap[i]? := fun i hi => (hb i hi).trans (he.block i hi)
  exact ⟨h1.trans he.os, h2.trans he.tape, h3.trans he.output, Nat.le_trans he.size h4, fun a ha => World.cell?_of_block (hb' a.block ha), fun a ha => World.frozen?_of_block (hb' a.block ha), hb'⟩

theorem setRow_size (w : World) (b : Nat) (c : Array Value) : (w.setRow b c).heap.size = w.heap.size := by simp [World.setRow]

theorem ext_setRow (he : w0.Extends w) {b : Nat} (hb : w0.heap.size ≤ b) (c : Array Value) : w0.Extends (w.setRow b c) :=
  ext_blocks he rfl rfl rfl (by rw [setRow_size]; exact Nat.le_refl _) fun i hi => setRow_other w b i c (by omega)

theorem PRL.splitAt {α : Type} {R : α → List Value → Prop} {k : Nat} (hk : ∀ x es, R x es → es.length = k) : ∀ (l : List α) (us : List Value) (i : Nat) (x : α), PRL R l us → l[i]? = some x →
    ∃ a es c, us = a ++ es ++ c ∧ a.length = i * k ∧ R x es ∧ ∀ y es', R y es' → PRL R (l.set i y) (a ++ es' ++ c)
  | [], _, i, x, _, hx => by simp at hx
  | z :: l, _, 0, x, ⟨es, rest, e, h1, h2⟩, hx => by
    simp at hx; subst hx
    exact ⟨[], es, rest, by simpa using e, by simp, h1, fun y es' hy => ⟨es', rest, by simp, hy, h2⟩⟩
  | z :: l, _, i + 1, x, ⟨es, rest, e, h1, h2⟩, hx => by
    obtain ⟨a, es2, c, e2, h3, h4, h5⟩ := PRL.splitAt hk l rest i x h2 (by simpa using hx)
    refine ⟨es ++ a, es2, c, by simp [e, e2], by simp [hk _ _ h1, h3, Nat.add_mul]; omega, h4, fun y es' hy => ⟨es, a ++ es' ++ c, by simp, h1, h5 y es' hy⟩⟩

theorem putCells_CRs {base : Nat} {cs : List C} {vs : List Value} {off : Nat} {new : List C} {us : List Value} (h1 : CRs w base Zp h g cs vs) (h2 : CRs w base Zp h g new us) :
    CRs w base Zp h g (putCells cs off new) (vs.take off ++ us ++ vs.drop (off + us.length)) := by
  unfold putCells
  rw [h2.length]
  exact CRs.append _ _ _ _ (CRs.append _ _ _ _ (CRs.take off _ _ h1) h2) (CRs.drop _ _ _ h1)

theorem splice_eq {α : Type} (a es c us : List α) (k : Nat) (hk : k + us.length ≤ es.length) :
    (a ++ es ++ c).take (a.length + k) ++ us ++ (a ++ es ++ c).drop (a.length + k + us.length) = a ++ (es.take k ++ us ++ es.drop (k + us.length)) ++ c := by
  rw [List.append_assoc a es c, List.take_length_add_append, Nat.add_assoc a.length, List.drop_length_add_append, List.take_append_of_le_length (by omega), List.drop_append_of_le_length hk]
  simp [List.append_assoc]

theorem AR.skip {base : Nat} : AR w base Zp h g skipA undef := ⟨[], rfl, rfl⟩

theorem storeCells_run {b off : Nat} {cur : Array Value} {e0 : TypeId} {vs : List Value} (hcur : w.heap[b]? = some (.cells cur e0 (0, 0))) (hl : off + vs.length ≤ cur.size) (h1 : ∀ v ∈ vs, v.oneCell' = true) :
    (storeCells ⟨b, off, none⟩ vs).run P w = .ok () (w.setRow b (cur.toList.take off ++ vs ++ cur.toList.drop (off + vs.length)).toArray) := by
  have := run_storeCells_at P b off e0 vs 0 cur w hcur (by simpa using hl) h1
  simpa using this

theorem storeAt_run {t : TypeId} {d : TD} (T : TOK P t d) {b off : Nat} {cur : Array Value} {e0 : TypeId} {v : Value} (hcur : w.heap[b]? = some (.cells cur e0 (0, 0))) (hs : v.cells.size = d.size) (hl : off + v.cells.toList.length ≤ cur.size)
    (h1 : ∀ u ∈ v.cells.toList, u.oneCell' = true) :
    (Instr.storeAt t (.pointer (some ⟨b, off, none⟩)) v).run P w = .ok () (w.setRow b (cur.toList.take off ++ v.cells.toList ++ cur.toList.drop (off + v.cells.toList.length)).toArray) := by
  have := storeCells_run (P := P) hcur hl h1
  simp only [Array.length_toList] at this
  simp [Instr.storeAt, Instr.sureAddr, storeVar, T.sizeOf, hs, this]

theorem store_sim (R : HR w0 Z0 Zp h g w) {t : TypeId} {d : TD} (T : TOK P t d) {a x : A} {va vx : Value} (ha : AR w w0.heap.size Zp h g a va) (hx : AR w w0.heap.size Zp h g x vx)
    (e : (storeM d a x).eval next h L = some (r, h', L')) : OpSim P w0 Z0 Zp h g w new (do Instr.storeAt t va vx; pure .skip) r h' := by
  unfold storeM at e
  split at e
  · rename_i o off gg cs
    split at e
    · rename_i hc
      simp only [Bool.and_eq_true] at hc
      obtain ⟨⟨hsz, hk⟩, hgg⟩ := hc
      have hsz := Nat.eq_of_beq_eq_true hsz
      have e := eval_get e
      split at e
      · rename_i old ho
        split at e
        · rename_i hle
          have hle := Nat.le_of_ble_eq_true hle
          have e := eval_set e
          have e := eval_ret e
          cases e
          obtain ⟨hal, hp, hd⟩ := ha.c
          obtain ⟨b, hb, rfl⟩ := hd (by rw [ho]; simp)
          have hob := R.ob o
          rw [ho] at hob
          obtain ⟨b', cur, e0, hb', hcur, hcs⟩ := hob
          rw [hb] at hb'; cases hb'
          have hvc := cells_of_VR hk hx
          have hvl := hvc.length
          have hcl := hcs.length
          simp only [Array.length_toList] at hcl hvl
          have hone := CRs.one cs _ hk hvc
          have hbb := R.home o b (by rw [ho]; simp) hb
          have hrun := storeAt_run (P := P) T (off := off) (v := vx) hcur (by omega) (by simp only [Array.length_toList]; omega) hone
          obtain ⟨R', Le'⟩ := R.write (w' := w.setRow b (cur.toList.take off ++ vx.cells.toList ++ cur.toList.drop (off + vx.cells.toList.length)).toArray) (x := .cells (putCells old off cs)) hb (by rw [ho]; rfl) (by rw [ho]; exact .inr (.inr (.inl ⟨_, _, rfl, rfl⟩))) rfl
            (fun c hc => setRow_other w b c _ hc) (setRow_size _ _ _) (ext_setRow R.ext hbb.1 _)
            (fun L1 => ⟨b, _, e0, hb, setRow_heap w b cur _ e0 _ hcur, by
              have := putCells_CRs (off := off) (CRs.mono L1 _ _ hcs) (CRs.mono L1 _ _ hvc)
              simpa using this⟩)
          exact ⟨_, undef, _, _, by simp [hrun], .inr ⟨rfl, rfl⟩, R', Le', AR.skip, fun o ho => .inl ho⟩
        · exact (eval_fail e).elim
      · exact (eval_fail e).elim
    · exact (eval_fail e).elim
  · rename_i o i c gg cs
    split at e
    · rename_i hc
      simp only [Bool.and_eq_true] at hc
      obtain ⟨⟨hsz, hk⟩, hgg⟩ := hc
      have hsz := Nat.eq_of_beq_eq_true hsz
      have hvc := cells_of_VR hk hx
      have hone := CRs.one cs _ hk hvc
      obtain ⟨cs', h1, g1, L1, e, R1, Le1, hg1, hvc1⟩ := freezeCs_true cs _ h g L _ _ R hvc e
      have ha1 := AR.mono Le1 _ _ ha
      have e := eval_get e
      split at e
      · rename_i ety l ho
        obtain ⟨x0, hx0, e⟩ := eval_opt e
        split at e
        · rename_i hle
          have hle := Nat.le_of_ble_eq_true hle
          split at e
          · rename_i y hy
            have e := eval_set e
            have e := eval_ret e
            cases e
            obtain ⟨hal, hp, hd⟩ := ha1.c
            obtain ⟨b, hb, rfl⟩ := hd ety (List.length l) (by rw [ho]; rfl)
            have hob := R1.ob o
            rw [ho] at hob
            obtain ⟨h0, h00, b', cur, e0, hb', hcur, hpr⟩ := hob
            rw [hb] at hb'; cases hb'
            have hvl := hvc1.length
            have hbb := R1.home o b (by rw [ho]; simp) hb
            obtain ⟨A1, es, C1, hsp, hA1, hxe, hset⟩ := PRL.splitAt (PR.k ety) l _ i x0 hpr hx0
            have hes := PR.k _ _ _ hxe
            have hvl0 := hvc.length
            simp only [Array.length_toList] at hvl hvl0
            have hlen : i * ety.size + c + vx.cells.toList.length ≤ cur.size := by
              have h9 := congrArg List.length hsp
              simp only [Array.length_toList, List.length_append] at h9 ⊢
              omega
            have hrun := storeAt_run (P := P) T (off := i * ety.size + c) (v := vx) hcur (by omega) hlen hone
            obtain ⟨R', Le'⟩ := R1.write (w' := w.setRow b (cur.toList.take (i * ety.size + c) ++ vx.cells.toList ++ cur.toList.drop (i * ety.size + c + vx.cells.toList.length)).toArray) (x := .row ety (l.set i y)) hb (by rw [ho]; rfl)
              (by rw [ho]; exact .inr (.inr (.inr ⟨_, rfl, by simp [rowLen]⟩))) rfl
              (fun c hc => setRow_other w b c _ hc) (setRow_size _ _ _) (ext_setRow R1.ext hbb.1 _)
              (fun L2 => ⟨h0, h00, b, _, e0, hb, setRow_heap w b cur _ e0 _ hcur, by
                have hes2 := CRs.of_PR (base := w0.heap.size) (h := h1) (g := g1) ety x0 es hxe
                have hcc := putCells_CRs (off := c) hes2 hvc1
                have hyp := takeAll_PR h00 hcc hy
                have hfin := hset y _ hyp
                have heq := splice_eq A1 es C1 vx.cells.toList c (by simp only [Array.length_toList]; omega)
                rw [hA1, ← hsp] at heq
                rw [← heq] at hfin
                exact PRL.mono (fun x es hx => PR.mono L2.z L2.zp _ _ _ hx) _ _ (by simpa using hfin)⟩)
            exact OpSim.behind Le1 (fun o ho => hg1 ▸ ho) ⟨_, undef, _, _, by simp [hrun], .inr ⟨rfl, rfl⟩, R', Le', AR.skip, fun o ho => .inl ho⟩
          · exact (eval_fail e).elim
        · exact (eval_fail e).elim
      · exact (eval_fail e).elim
    · exact (eval_fail e).elim
  · exact (eval_fail e).elim

end
end Go.Am

/- The abstract machine: makes, literals, appends. -/
namespace Go.Am
open Go

section
variable {P : Program} {w0 w w' : World} {Z0 Zp : Zone} {h h' : Heap} {g : G} {new next base : Nat} {r : A} {L L' : Log} {X : Cx}

theorem zero_PR {Z : Zone} : ∀ τ : Ty, τ.noRef = true → τ.noFn = true → PR w Z Zp τ τ.zero τ.zvals
  | .bool, _, _ => rfl
  | .int _, _, _ => rfl
  | .str, _, _ => rfl
  | .sl e, _, _ => ⟨none, 0, [], rfl, Nat.le_refl _, rfl, fun h => absurd rfl h⟩
  | .pair a b, h1, h2 => by
    simp [Ty.noRef] at h1
    simp [Ty.noFn] at h2
    exact ⟨_, _, rfl, zero_PR a h1.1 h2.1, zero_PR b h1.2 h2.2⟩
  | .unit, _, _ => rfl
  | .ref _, h1, _ => by simp [Ty.noRef] at h1
  | .fn _, _, h2 => by simp [Ty.noFn] at h2

theorem mkn_some {b : Nat} {n : Int} {k : Nat} (hx : mkn b n = some k) : 0 ≤ n ∧ n.toNat * b ≤ room ∧ n ≤ 140737488355328 ∧ k = n.toNat := by
  unfold mkn at hx
  split at hx
  · rename_i h0; cases hx; exact ⟨h0.1, h0.2.1, h0.2.2, rfl⟩
  · cases hx

theorem PRL.replicate {α : Type} {R : α → List Value → Prop} {x : α} {zs : List Value} (hx : R x zs) : ∀ n, PRL R (List.replicate n x) (List.replicate n zs).flatten
  | 0 => by simp [PRL]
  | n + 1 => by rw [List.replicate_succ, List.replicate_succ, List.flatten_cons]; exact ⟨zs, _, rfl, hx, PRL.replicate hx n⟩

theorem made_flat (z : Array Value) (hz : 0 < z.size) (n : Nat) : (madeCells z (n * z.size)).toList = (List.replicate n z.toList).flatten := by
  induction n with
  | zero => simp [madeCells]
  | succ n ih =>
    rw [List.replicate_succ', List.flatten_append, ← ih]
    apply List.ext_getElem?
    intro i
    have e : (n + 1) * z.size = n * z.size + z.size := by rw [Nat.add_mul, Nat.one_mul]
    rw [List.getElem?_append]
    simp only [madeCells, Array.length_toList, Array.size_map, Array.size_range, Array.getElem?_toList, Array.getElem?_map, Array.getElem?_range, List.flatten_cons, List.flatten_nil, List.append_nil]
    by_cases h1 : i < n * z.size
    · have h2 : i < (n + 1) * z.size := by omega
      simp [h1, h2]
    · simp only [h1, if_false]
      by_cases h2 : i < (n + 1) * z.size
      · have h3 : i - n * z.size < z.size := by omega
        have h4 : i % z.size = i - n * z.size := by
          have hc : z.size * n = n * z.size := Nat.mul_comm _ _
          have : i = i - n * z.size + z.size * n := by omega
          have h5 : (i - n * z.size + z.size * n) % z.size = i - n * z.size := by rw [Nat.add_mul_mod_self_left, Nat.mod_eq_of_lt h3]
          rw [← this] at h5
          exact h5
        simp [h2, h4, h3]
      · have h3 : ¬ i - n * z.size < z.size := by omega
        simp [h2, h3]

/-- a made row -/
theorem make_sim (R : HR w0 Z0 Zp h g w) (hn : ¬ g.al new) {t e : TypeId} {d de : TD} (T : TOK P t d) (Te : TOK P e de) (hd : d.desc = .slice e) {τ : Ty} (hz : de.zero = true) (hτ : de.ty = some τ) (hs0 : 0 < de.size)
    {kl kc : IntKind} {n : Int} {k : Nat} (hk : mkn de.bytes n = some k) :
    OpSim P w0 Z0 Zp h g w new (do pure (.value (← Instr.makeSlice t (.int kl n) (.int kc n)))) (.v false [.vec new]) ((new, .row τ (List.replicate k τ.zero)) :: h) := by
  obtain ⟨i, z, hi, his, hib, hiz, hzv, _⟩ := Te.zeroV hz hτ
  obtain ⟨h0, h1, h2, rfl⟩ := mkn_some hk
  obtain ⟨e1, e2, e3, hfn⟩ := Te.tyEq hτ
  have hzs : z.cells.size = de.size := by
    have := congrArg List.length hzv
    rw [Array.length_toList, PR.length τ _ _ (zero_PR (w := w) (Z := Z0) (Zp := Zp) τ e3 hfn)] at this
    omega
  have hb : (i.bytes : Int) * n ≤ 281474976710656 := by
    have h3 : n.toNat * i.bytes ≤ 140737488355328 := by rw [hib]; exact h1
    have h4 : ((n.toNat * i.bytes : Nat) : Int) = (i.bytes : Int) * n := by rw [Int.natCast_mul, Int.toNat_of_nonneg h0, Int.mul_comm]
    omega
  have hrun := run_make (P := P) w t e i z (T.slice hd) hi hiz kl kc n n h0 (Int.le_refl _) hb (by omega)
  refine OpSim.alloc R hn (w1 := w) (.inl rfl) (cur := madeCells z.cells (n.toNat * i.size)) (e0 := e) (v := .slice (some ⟨w.heap.size, 0, none⟩) n.toNat n.toNat) _ 0 (by simp [hrun]) (fun L1 hnew => ⟨⟨by omega, e3, _, _, _, hm_new _ _ _ _, hnew, ?_⟩, AR.ofC ⟨.inr rfl, ⟨_, _, _, rfl⟩, fun e' n' he => ?_⟩⟩) (fun _ => rfl)
  · have : i.size = z.cells.size := by omega
    rw [this, made_flat z.cells (by omega), hzv]
    exact PRL.replicate (zero_PR τ e3 hfn) _
  · rw [look_new] at he
    simp [rowLen] at he
    exact ⟨_, hm_new _ _ _ _, by rw [← he.2]⟩

/-- a token over a fresh block: an empty row with room, or a literal -/
theorem AR.own {e : Ty} {l : List e.den} {b cap : Nat} {cur : Array Value} {e0 : TypeId} {base : Nat} (hal : g.al new) (hhm : g.hm new = some b) (hlo : g.lo new = List.length l * e.size) (hb : base ≤ b)
    (hcur : w.heap[b]? = some (.cells cur e0 (0, 0))) (hcap : List.length l ≤ cap) (hmx : cap ≤ maxLen) (hsz : cur.size = cap * e.size) (hpr : PRL (PR w g.Z Zp e) l (cur.toList.take (List.length l * e.size)))
    (hz : ∀ i, i < List.length l * e.size → g.Z b i) : AR w base Zp h g (.v false [.sl e l (.own new)]) (.slice (some ⟨b, 0, none⟩) (List.length l) cap) := by
  refine AR.ofC ⟨⟨_, cap, _, rfl, hcap, hpr, fun _ => ⟨b, 0, rfl, fun j u hj => ?_⟩⟩, hal, fun _ => .inr ⟨b, cap, cur, e0, hhm, rfl, hcur, hcap, hmx, hsz, hb, hlo⟩⟩
  rw [Nat.zero_add, cell_block hcur]
  rw [List.getElem?_take] at hj
  split at hj
  · rename_i hlt
    exact ⟨by simpa using hj, hz j hlt⟩
  · cases hj

theorem newG_al (g : G) (new : Nat) (b : Option Nat) (k : Nat) : (newG g new b k).al new := .inr rfl

/-- make with length 0: a token -/
theorem make0_sim (R : HR w0 Z0 Zp h g w) (hn : ¬ g.al new) {t e : TypeId} {d de : TD} (T : TOK P t d) (Te : TOK P e de) (hd : d.desc = .slice e) {τ : Ty} (hz : de.zero = true) (hτ : de.ty = some τ)
    {kl kc : IntKind} {n : Int} {k : Nat} (hk : mkn de.bytes n = some k) :
    OpSim P w0 Z0 Zp h g w new (do pure (.value (← Instr.makeSlice t (.int kl 0) (.int kc n)))) (.v false [.sl τ [] (.own new)]) ((new, .tok) :: h) := by
  obtain ⟨i, z, hi, his, hib, hiz, hzv, _⟩ := Te.zeroV hz hτ
  obtain ⟨h0, h1, h2, rfl⟩ := mkn_some hk
  obtain ⟨e1, e2, e3, hfn⟩ := Te.tyEq hτ
  have hb : (i.bytes : Int) * n ≤ 281474976710656 := by
    have h3 : n.toNat * i.bytes ≤ 140737488355328 := by rw [hib]; exact h1
    have h4 : ((n.toNat * i.bytes : Nat) : Int) = (i.bytes : Int) * n := by rw [Int.natCast_mul, Int.toNat_of_nonneg h0, Int.mul_comm]
    omega
  have hrun := run_make (P := P) w t e i z (T.slice hd) hi hiz kl kc 0 n (Int.le_refl _) h0 hb (by omega)
  refine OpSim.alloc R hn (w1 := w) (.inl rfl) (cur := madeCells z.cells (n.toNat * i.size)) (e0 := e) (v := .slice (some ⟨w.heap.size, 0, none⟩) 0 n.toNat) _ 0 (by simp [hrun]) (fun L1 hnew => ⟨trivial, ?_⟩) (fun _ => rfl)
  have := AR.own (h := (new, .tok) :: h) (base := w0.heap.size) (e := τ) (l := []) (Zp := Zp) (newG_al g new (some w.heap.size) 0) (hm_new _ _ _ _) (by rw [lo_new]; simp) R.base_le hnew (cap := n.toNat) (by simp) (by simp only [maxLen]; omega)
    (by rw [size_madeCells]; congr 1; omega) (by simp [PRL]) (by simp)
  simpa using this

/-! ### literals of slices -/

theorem takeAll_len {τ : Ty} {cs : List C} {x : τ.den} {vs : List Value} {Zq : Zone} (hn : τ.noRef = true) (hc : CRs w base Zq h g cs vs) (ht : τ.takeAll cs = some x) : vs.length = τ.size := PR.length _ _ _ (takeAll_PR hn hc ht)

/-- the parts: frozen, read as data -/
theorem partsM_sim {τ : Ty} (hnr : τ.noRef = true) : ∀ (ps : List (Nat × A)) (vs : List Value) (n : Nat) (h : Heap) (g : G) (L : Log) (k : List τ.den → HM) (res : A × Heap × Log), HR w0 Z0 Zp h g w →
    PRL (fun (p : Nat × A) es => ∃ u, es = [u] ∧ AR w w0.heap.size Zp h g p.2 u) ps vs → (partsM τ n ps k).eval next h L = some res →
    ∃ l h1 g1 L1, (k l).eval next h1 L1 = some res ∧ HR w0 Z0 Zp h1 g1 w ∧ Le Zp h g w h1 g1 w ∧ g1.al = g.al ∧ List.length l = ps.length ∧ PRL (PR w g1.Z Zp τ) l (vs.flatMap fun v => v.cells.toList) ∧
      ps.map (·.1) = (List.range' n ps.length) ∧ ∀ v ∈ vs, v.cells.size = τ.size
  | [], vs, n, h, g, L, k, res, R, hv, e => by
    simp only [PRL] at hv
    subst hv
    exact ⟨[], h, g, L, e, R, Le.refl _ _ _ _, rfl, rfl, rfl, rfl, by simp⟩
  | (i, a) :: ps, vs, n, h, g, L, k, res, R, ⟨es, rest, e1, ⟨u, e2, hu⟩, hps⟩, e => by
    subst e2
    subst e1
    unfold partsM at e
    split at e
    · rename_i heq; cases heq
    · rename_i i' gg cs r' heq
      cases heq
      split at e
      · rename_i hc
        simp only [Bool.and_eq_true] at hc
        have hi := Nat.eq_of_beq_eq_true hc.1.1
        subst hi
        have hcs := cells_of_VR hc.2 hu
        obtain ⟨cs', h1, g1, L1, e, R1, Le1, hg1, hcs1⟩ := freezeCs_true cs _ h g L _ _ R hcs e
        split at e
        · rename_i x hx
          have hpr := takeAll_PR hnr hcs1 hx
          obtain ⟨l, h2, g2, L2, e, R2, Le2, hg2, hlen, hpl, hmap, hsz⟩ := partsM_sim hnr ps rest _ h1 g1 L1 _ res R1
            (PRL.mono (fun p es ⟨u, e, hu⟩ => ⟨u, e, AR.mono Le1 _ _ hu⟩) _ _ hps) e
          refine ⟨x :: l, h2, g2, L2, e, R2, Le1.trans Le2, hg2.trans hg1, by simp [hlen], ?_, ?_, ?_⟩
          · simp only [List.singleton_append, List.flatMap_cons]
            exact ⟨_, _, rfl, PR.mono Le2.z Le2.zp _ _ _ hpr, hpl⟩
          · simp only [List.map_cons, List.length_cons, List.range'_succ, hmap]
          · intro v hv
            simp at hv
            rcases hv with rfl | hv
            · have := PR.length _ _ _ hpr
              simpa using this
            · exact hsz v hv
        · exact (eval_fail e).elim
      · exact (eval_fail e).elim
    · exact (eval_fail e).elim

theorem zipIdx_of_map {vs : List Value} : ∀ (ps : List (Nat × Value)) (n : Nat), ps.map (·.1) = List.range' n ps.length → ps.map (·.2) = vs → ps = (vs.zipIdx n).map fun x => (x.2, x.1) := by
  induction vs with
  | nil => intro ps n _ h2; cases ps with | nil => rfl | cons _ _ => simp at h2
  | cons v vs ih =>
    intro ps n h1 h2
    cases ps with
    | nil => simp at h2
    | cons p ps =>
      simp only [List.map_cons, List.cons.injEq] at h2
      simp only [List.map_cons, List.length_cons, List.range'_succ, List.cons.injEq] at h1
      simp only [List.zipIdx_cons, List.map_cons]
      rw [← ih ps (n + 1) h1.2 h2.2]
      congr 1
      cases p; simp_all


/-- operands of parts -/
theorem parts_AR {base : Nat} {env : Env} {a : Act} (he : ∀ t, AR w base Zp h g (look undefA t env) (a.tmps.getD t undef)) : ∀ (ps : List (Nat × Operand)),
    PRL (fun (p : Nat × A) es => ∃ u, es = [u] ∧ AR w base Zp h g p.2 u) (ps.map fun (i, x) => (i, rho env x)) (ps.map fun p => a.eval p.2)
  | [] => rfl
  | (_, x) :: ps => ⟨[a.eval x], _, rfl, ⟨_, rfl, rho_AR he x⟩, parts_AR he ps⟩

theorem buildSlice_sim (R : HR w0 Z0 Zp h g w) (hn : ¬ g.al new) {t e : TypeId} {d de : TD} (T : TOK P t d) (Te : TOK P e de) (hd : d.desc = .slice e) {τ : Ty} (hτ : de.ty = some τ) {len : Nat} {parts : Array (Nat × Operand)}
    {env : Env} {a : Act} (he : ∀ t, AR w w0.heap.size Zp h g (look undefA t env) (a.tmps.getD t undef))
    (hc : (Nat.beq parts.size len && Nat.ble (len * de.size) 16777216 && Nat.blt 0 de.size && (len == 0 || de.zero)) = true)
    (e1 : (partsM τ 0 (parts.toList.map fun (i, x) => (i, rho env x)) fun l => .set new .tok (retC (.sl τ l (.own new)))).eval next h L = some (r, h', L')) :
    OpSim P w0 Z0 Zp h g w new (do pure (.value (← Instr.buildSlice t len (parts.map fun (i, x) => (i, a.eval x))))) r h' := by
  simp only [Bool.and_eq_true] at hc
  obtain ⟨⟨⟨hc1, hc2⟩, hc3⟩, hc4⟩ := hc
  have hc1 := Nat.eq_of_beq_eq_true hc1
  have hc2 := Nat.le_of_ble_eq_true hc2
  have hc3 : 0 < de.size := by simpa [Nat.blt_eq] using hc3
  obtain ⟨t1, t2, t3, t4⟩ := Te.tyEq hτ
  obtain ⟨l, h1, g1, L1, e2, R1, Le1, hg1, hlen, hpl, hmap, hsz⟩ := partsM_sim t3 _ _ 0 h g L _ _ R (parts_AR he parts.toList) e1
  have e3 := eval_set e2
  obtain ⟨rfl, rfl, _⟩ := eval_retC e3
  have hn1 : ¬ g1.al new := by rw [hg1]; exact hn
  simp only [List.length_map, Array.length_toList, hc1] at hlen
  have hvs : (parts.toList.map fun p => a.eval p.2).length = len := by simp [hc1]
  have hpleq : (parts.map fun (i, x) => (i, a.eval x)).toList = ((parts.toList.map fun p => a.eval p.2).zipIdx 0).map fun x => (x.2, x.1) := by
    apply zipIdx_of_map
    · simp only [Array.toList_map, List.map_map, List.length_map, Array.length_toList]
      simp only [List.map_map, List.length_map, Array.length_toList] at hmap
      exact hmap
    · simp only [Array.toList_map, List.map_map]
      rfl
  have hfl := PRL.length (PR.k τ) _ _ hpl
  refine OpSim.behind Le1 (fun o ho => hg1 ▸ ho) ?_
  have hrun : (Instr.buildSlice t len (parts.map fun (i, x) => (i, a.eval x))).run P w = .ok (.slice (some ⟨w.heap.size, 0, none⟩) len len) (w.alloc (.cells ((parts.toList.map fun p => a.eval p.2).flatMap fun v => v.cells.toList).toArray e)) := by
    obtain ⟨ie, hie, his, _⟩ := Te.inf
    by_cases h0 : len = 0
    · subst h0
      have : parts = #[] := Array.eq_empty_of_size_eq_zero hc1
      subst this
      simp [Instr.buildSlice, run_underlying (T.slice hd), Go.sizeOf, typeInfo, hie, Instr.fill, newRow, Array.range_zero']
    · have hzz : de.zero = true := by simpa [h0] using hc4
      obtain ⟨i, z, hi, his', hib, hiz, hzv, _⟩ := Te.zeroV hzz hτ
      have hzs : z.cells.size = de.size := by
        have := congrArg List.length hzv
        rw [Array.length_toList, PR.length τ _ _ (zero_PR (w := w) (Z := Z0) (Zp := Zp) τ t3 t4)] at this
        omega
      have hpos : ¬ len * i.size = 0 := by rw [his']; exact Nat.ne_of_gt (Nat.mul_pos (by omega) hc3)
      refine run_buildSlice w t e len _ _ i z (T.slice hd) hi hiz (by rw [his']; omega) hpos ?_
      rw [hpleq, his']
      exact Go.Great.fill_whole hc3 _ _ (fun v hv => by rw [hsz v hv, t1]) (by simp [hc1])
  refine OpSim.alloc R1 hn1 (w1 := w) (.inl rfl) (cur := ((parts.toList.map fun p => a.eval p.2).flatMap fun v => v.cells.toList).toArray) (e0 := e) (v := .slice (some ⟨w.heap.size, 0, none⟩) len len) _ (len * τ.size) (by simp [hrun]) (fun L2 hnew => ⟨trivial, ?_⟩) (fun h => by cases h)
  have := AR.own (h := (new, .tok) :: h1) (base := w0.heap.size) (e := τ) (l := l) (Zp := Zp) (newG_al g1 new (some w.heap.size) (len * τ.size)) (hm_new _ _ _ _) (by rw [lo_new, hlen]) R.base_le hnew (cap := len) (by omega)
    (by
      have : len * 1 ≤ len * de.size := Nat.mul_le_mul_left _ hc3
      simp only [maxLen]; omega) (by rw [List.size_toArray, hfl, hlen])
    (by
      rw [← hfl]
      simp only [List.take_length]
      exact PRL.mono (fun x es hx => PR.mono L2.z L2.zp _ _ _ hx) _ _ hpl)
    (fun i hi => .inr ⟨rfl, by rw [hlen] at hi; exact hi⟩)
  rw [hlen] at this
  exact this

end
end Go.Am
