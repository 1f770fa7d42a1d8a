import Derived.Test.YtfafklfpikjheaaGreatA5
import Derived.LoopN
set_option linter.unusedVariables false
set_option linter.unusedSimpArgs false
/- The abstract machine: a region whose order is drawn comes to what the order of the text comes to. -/
namespace Go.Am
open Go

/-! ### which waits for which -/

theorem fold_bits (acc : Nat → Nat) (i : Nat) : ∀ (l : List Edge) (s : Nat), (l.foldl (fun s e => if Region.binds .any e then s ||| 2 ^ e.on ||| acc e.on else s) s).testBit i = true →
    s.testBit i = true ∨ ∃ e ∈ l, Region.binds .any e = true ∧ (e.on = i ∨ (acc e.on).testBit i = true)
  | [], s, h => .inl h
  | e :: l, s, h => by
    simp only [List.foldl_cons] at h
    rcases fold_bits acc i l _ h with h1 | ⟨e', he', h1⟩
    · split at h1
      · rename_i hb
        rw [Nat.testBit_or, Nat.testBit_or] at h1
        simp only [Bool.or_eq_true] at h1
        rcases h1 with (h1 | h1) | h1
        · exact .inl h1
        · rw [Nat.testBit_two_pow] at h1
          exact .inr ⟨e, by simp, hb, .inl (by simpa using h1)⟩
        · exact .inr ⟨e, by simp, hb, .inr h1⟩
      · exact .inl h1
    · exact .inr ⟨e', by simp [he'], h1⟩

def bits1 (acc : Nat → Nat) (o : Oper) : Nat := o.after.foldl (fun s e => if Region.binds .any e then s ||| 2 ^ e.on ||| acc e.on else s) 0

theorem before_fold : ∀ (l : List Oper) (acc : Array Nat), 
    (l.foldl (fun acc o => acc.push (bits1 (fun k => acc.getD k 0) o)) acc).size = acc.size + l.length ∧
    (∀ k, k < acc.size → (l.foldl (fun acc o => acc.push (bits1 (fun k => acc.getD k 0) o)) acc).getD k 0 = acc.getD k 0) ∧
    ∀ (j : Nat) (o : Oper), l[j]? = some o → ∃ acc' : Array Nat, acc'.size = acc.size + j ∧ (∀ k, k < acc.size + j → acc'.getD k 0 = (l.foldl (fun acc o => acc.push (bits1 (fun k => acc.getD k 0) o)) acc).getD k 0) ∧
      (l.foldl (fun acc o => acc.push (bits1 (fun k => acc.getD k 0) o)) acc).getD (acc.size + j) 0 = bits1 (fun k => acc'.getD k 0) o
  | [], acc => ⟨rfl, fun _ _ => rfl, fun j o h => by simp at h⟩
  | o :: l, acc => by
    obtain ⟨h1, h2, h3⟩ := before_fold l (acc.push (bits1 (fun k => acc.getD k 0) o))
    simp only [List.foldl_cons, List.length_cons]
    simp only [Array.size_push] at h1 h2 h3
    have hold : ∀ k, k < acc.size → (acc.push (bits1 (fun k => acc.getD k 0) o)).getD k 0 = acc.getD k 0 := fun k hk => by
      simp only [Array.getD_eq_getD_getElem?, Array.getElem?_push, if_neg (Nat.ne_of_lt hk)]
    refine ⟨by rw [h1]; omega, fun k hk => (h2 k (by omega)).trans (hold k hk), fun j o' hj => ?_⟩
    cases j with
    | zero =>
      simp at hj
      subst hj
      refine ⟨acc, rfl, fun k hk => ((h2 k (by omega)).trans (hold k (by omega))).symm, ?_⟩
      rw [Nat.add_zero, h2 acc.size (by omega)]
      simp [Array.getD_eq_getD_getElem?]
    | succ j =>
      obtain ⟨acc', h4, h5, h6⟩ := h3 j o' (by simpa using hj)
      have e1 : acc.size + 1 + j = acc.size + (j + 1) := by omega
      rw [e1] at h4 h6
      exact ⟨acc', h4, fun k hk => h5 k (by omega), h6⟩

theorem before_eq (ops : Array Oper) : Region.before ops = ops.toList.foldl (fun acc o => acc.push (bits1 (fun k => acc.getD k 0) o)) #[] := by
  unfold Region.before
  rw [← Array.foldl_toList]
  rfl

/-- i comes ahead of j, whatever is drawn -/
def Bef (ops : Array Oper) (i j : Nat) : Prop := ((Region.before ops).getD j 0).testBit i = true

theorem bef_edge {ops : Array Oper} {i j : Nat} {o : Oper} (ho : ops[j]? = some o) (hb : ∀ e ∈ o.after.toList, Region.binds .any e = true → e.on < j) (h : Bef ops i j) :
    ∃ e ∈ o.after.toList, Region.binds .any e = true ∧ (e.on = i ∨ Bef ops i e.on) := by
  unfold Bef at h ⊢
  rw [before_eq] at h ⊢
  obtain ⟨_, _, h3⟩ := before_fold ops.toList #[]
  obtain ⟨acc', h4, h5, h6⟩ := h3 j o (by simpa using ho)
  simp only [List.size_toArray, List.length_nil, Nat.zero_add] at h4 h5 h6
  rw [h6] at h
  unfold bits1 at h
  rw [← Array.foldl_toList] at h
  rcases fold_bits (fun k => acc'.getD k 0) i _ 0 h with h7 | ⟨e, he, hbe, h7⟩
  · simp at h7
  · refine ⟨e, he, hbe, h7.imp id fun h8 => ?_⟩
    rw [← h5 e.on (hb e he hbe)]
    exact h8

/-! ### the text's run, and any other -/

theorem opsE_run (X : Cx) (ops : List Oper) : ∀ (l : List Oper) (new : Nat) (s : St) (Ls : List Log) (s' : St) (Ls' : List Log), opsE X ops new l s Ls = some (s', Ls') →
    ∃ (S : Nat → St) (Lg : Nat → Log), S 0 = s ∧ S l.length = s' ∧ (∀ (i : Nat) (o : Oper), l[i]? = some o → stepE X ops (new + i) o (S i) = some (S (i + 1), Lg i)) ∧ Ls' = ((List.range l.length).map Lg).reverse ++ Ls
  | [], new, s, Ls, s', Ls', e => by
    cases e
    exact ⟨fun _ => s, fun _ => [], rfl, rfl, fun i o h => by simp at h, by simp⟩
  | o :: l, new, s, Ls, s', Ls', e => by
    simp only [opsE] at e
    split at e
    · rename_i s1 L hs1
      obtain ⟨S, Lg, h1, h2, h3, h4⟩ := opsE_run X ops l (new + 1) s1 (L :: Ls) s' Ls' e
      refine ⟨fun i => match i with | 0 => s | i + 1 => S i, fun i => match i with | 0 => L | i + 1 => Lg i, rfl, h2, fun i o' hi => ?_, ?_⟩
      · cases i with
        | zero => simp at hi; subst hi; simp only [Nat.add_zero, h1]; exact hs1
        | succ i =>
          have := h3 i o' (by simpa using hi)
          have e1 : new + 1 + i = new + (i + 1) := by omega
          rw [e1] at this
          exact this
      · rw [h4]
        simp [List.range_succ_eq_map, List.map_map, Function.comp_def]
    · cases e

theorem max_below (p : Nat → Prop) : ∀ j, (∃ i, i < j ∧ p i) → ∃ i, i < j ∧ p i ∧ ∀ k, k < j → p k → k ≤ i
  | 0, ⟨i, hi, _⟩ => by omega
  | j + 1, ⟨i, hi, hp⟩ => by
    by_cases hj : p j
    · exact ⟨j, by omega, hj, fun k hk _ => by omega⟩
    · have hij : i ≠ j := fun h => hj (h ▸ hp)
      obtain ⟨m, h1, h2, h3⟩ := max_below p j ⟨i, by omega, hp⟩
      exact ⟨m, by omega, h2, fun k hk hpk => h3 k (by
        rcases Nat.lt_or_ge k j with h | h
        · exact h
        · have : k = j := by omega
          subst this; exact absurd hpk hj) hpk⟩

theorem between {V : Type} (val : Nat → V) (wr : Nat → Prop) (n : Nat) (hS : ∀ i, i < n → ¬ wr i → val (i + 1) = val i) : ∀ (d i : Nat), i + d ≤ n → (∀ k, i ≤ k → k < i + d → ¬ wr k) → val (i + d) = val i
  | 0, i, _, _ => rfl
  | d + 1, i, hle, hno => by
    have h1 := hS (i + d) (by omega) (hno (i + d) (by omega) (by omega))
    have h2 := between val wr n hS d i (by omega) (fun k h1 h2 => hno k h1 (by omega))
    rw [show i + (d + 1) = i + d + 1 by omega, h1, h2]

/-- what a place holds behind those that came up is what it held in the text's run ahead of number j, if all that write there ahead of j came up, and none behind it did -/
theorem agree {V : Type} (val : Nat → V) (now : V) (wr isL : Nat → Prop) (n j : Nat) (hj : j ≤ n) (hS : ∀ i, i < n → ¬ wr i → val (i + 1) = val i) (inv0 : (∀ i, isL i → ¬ wr i) → now = val 0)
    (inv1 : ∀ i, isL i → wr i → (∀ k, isL k → wr k → k ≤ i) → now = val (i + 1)) (hlt : ∀ i, isL i → wr i → i < j) (hall : ∀ k, k < j → wr k → isL k) : now = val j := by
  by_cases h : ∃ i, i < j ∧ (isL i ∧ wr i)
  · obtain ⟨i, h1, ⟨h2, h3⟩, h4⟩ := max_below (fun i => isL i ∧ wr i) j h
    rw [inv1 i h2 h3 fun k hk hw => h4 k (hlt k hk hw) ⟨hk, hw⟩]
    have := between val wr n hS (j - (i + 1)) (i + 1) (by omega) fun k hk1 hk2 hw => by
      have := h4 k (by omega) ⟨hall k (by omega) hw, hw⟩
      omega
    rw [show i + 1 + (j - (i + 1)) = j by omega] at this
    exact this.symm
  · have hno : ∀ i, i < j → ¬ wr i := fun i hi hw => h ⟨i, hi, hall i hi hw, hw⟩
    rw [inv0 fun i hi hw => h ⟨i, hlt i hi hw, hi, hw⟩]
    have := between val wr n hS j 0 (by omega) fun k _ hk2 => hno k (by omega)
    rw [Nat.zero_add] at this
    exact this.symm

/-- the text's run -/
structure Run (X : Cx) (ops : Array Oper) (base : Nat) (S : Nat → St) (Lg : Nat → Log) : Prop where
  step : ∀ (i : Nat) (o : Oper), ops[i]? = some o → stepE X ops.toList (base + i) o (S i) = some (S (i + 1), Lg i)
  back : ∀ (j : Nat) (o : Oper), ops[j]? = some o → ∀ e ∈ o.after.toList, Region.binds .any e = true → e.on < j
  apart : ∀ (i j : Nat) (x y : Oper), ops[i]? = some x → ops[j]? = some y → i < j → Bef ops i j ∨ (tmpsApart ops.toList x y = true ∧ logsApart (Lg i) (Lg j) = true)

def writesT (ops : Array Oper) (t : Tmp) (i : Nat) : Prop := ∃ o, ops[i]? = some o ∧ o.dst = some t
def writesO (Lg : Nat → Log) (n o i : Nat) : Prop := i < n ∧ (o, true) ∈ Lg i

def isListed (n : Nat) (listed : Array Bool) (i : Nat) : Prop := i < n ∧ listed.getD i true = true

structure Inv (ops : Array Oper) (S : Nat → St) (Lg : Nat → Log) (listed : Array Bool) (s : St) : Prop where
  size : listed.size = ops.size
  next : s.next = (S 0).next
  env0 : ∀ t, (∀ i, isListed ops.size listed i → ¬ writesT ops t i) → look undefA t s.env = look undefA t (S 0).env
  env1 : ∀ t i, isListed ops.size listed i → writesT ops t i → (∀ k, isListed ops.size listed k → writesT ops t k → k ≤ i) → look undefA t s.env = look undefA t (S (i + 1)).env
  heap0 : ∀ o, (∀ i, isListed ops.size listed i → ¬ writesO Lg ops.size o i) → look .dead o s.heap = look .dead o (S 0).heap
  heap1 : ∀ o i, isListed ops.size listed i → writesO Lg ops.size o i → (∀ k, isListed ops.size listed k → writesO Lg ops.size o k → k ≤ i) → look .dead o s.heap = look .dead o (S (i + 1)).heap
  closed : ∀ i j, isListed ops.size listed j → Bef ops i j → isListed ops.size listed i

section
variable {X : Cx} {ops : Array Oper} {base : Nat} {S : Nat → St} {Lg : Nat → Log} {listed : Array Bool} {s : St}

theorem Run.lt (_ : Run X ops base S Lg) {i : Nat} {o : Oper} (h : ops[i]? = some o) : i < ops.size := (Array.getElem?_eq_some_iff.1 h).1

theorem Run.next (R : Run X ops base S Lg) {i : Nat} (hi : i ≤ ops.size) : (S i).next = (S 0).next := by
  induction i with
  | zero => rfl
  | succ i ih =>
    have := stepE_local (R.step i ops[i] (Array.getElem?_eq_getElem (by omega)))
    exact this.1.trans (ih (by omega))

theorem apart_dst_uses {ops : List Oper} {x y : Oper} (h : tmpsApart ops x y = true) {t : Tmp} (hx : x.dst = some t) : t ∉ uses ops y := by
  unfold tmpsApart at h
  rw [hx] at h
  simp only [Bool.and_eq_true, List.all_eq_true] at h
  intro ht
  have := h.1.1 t ht
  simp at this

theorem apart_dst_dst {ops : List Oper} {x y : Oper} (h : tmpsApart ops x y = true) {t : Tmp} (hx : x.dst = some t) : y.dst ≠ some t := by
  unfold tmpsApart at h
  rw [hx] at h
  simp only [Bool.and_eq_true] at h
  intro hy
  have := h.1.2
  rw [hy] at this
  simp at this

theorem apart_uses_dst {ops : List Oper} {x y : Oper} (h : tmpsApart ops x y = true) {t : Tmp} (hy : y.dst = some t) : t ∉ uses ops x := by
  unfold tmpsApart at h
  rw [hy] at h
  simp only [Bool.and_eq_true, List.all_eq_true] at h
  intro ht
  have := h.2 t ht
  simp at this

theorem apart_logs {a b : Log} (h : logsApart a b = true) {o : Nat} {w w' : Bool} (ha : (o, w) ∈ a) (hb : (o, w') ∈ b) : w = false ∧ w' = false := by
  unfold logsApart at h
  simp only [List.all_eq_true] at h
  have := h _ ha _ hb
  simpa using this

/-- ahead of a ready operation the state agrees with the text's on all that it uses -/
theorem ready_agree (R : Run X ops base S Lg) (I : Inv ops S Lg listed s) {j : Nat} {y : Oper} (hy : ops[j]? = some y) (hun : ¬ isListed ops.size listed j)
    (hedge : ∀ e ∈ y.after.toList, Region.binds .any e = true → isListed ops.size listed e.on) :
    (∀ t ∈ uses ops.toList y, look undefA t s.env = look undefA t (S j).env) ∧ (∀ p ∈ Lg j, look .dead p.1 s.heap = look .dead p.1 (S j).heap) := by
  have hj := R.lt hy
  have hbef : ∀ i, Bef ops i j → isListed ops.size listed i := fun i hb => by
    obtain ⟨e, he, hbe, h1⟩ := bef_edge hy (R.back j y hy) hb
    rcases h1 with h1 | h1
    · exact h1 ▸ hedge e he hbe
    · exact I.closed i _ (hedge e he hbe) h1
  have hbef2 : ∀ i, isListed ops.size listed i → ¬ Bef ops j i := fun i hi hb => hun (I.closed j i hi hb)
  refine ⟨fun t ht => ?_, fun p hp => ?_⟩
  · refine agree (fun i => look undefA t (S i).env) _ (writesT ops t) (isListed ops.size listed) ops.size j (by omega) (fun i hi hw => ?_) (I.env0 t) (I.env1 t) (fun i hi hw => ?_) (fun k hk hw => ?_)
    · exact (stepE_local (R.step i ops[i] (Array.getElem?_eq_getElem hi))).2.1 t (fun h => hw ⟨_, Array.getElem?_eq_getElem hi, h⟩)
    · obtain ⟨x, hx, hxd⟩ := hw
      rcases Nat.lt_or_ge i j with h | h
      · exact h
      · have hne : i ≠ j := fun h => hun (h ▸ hi)
        rcases R.apart j i y x hy hx (by omega) with h1 | h1
        · exact absurd h1 (hbef2 i hi)
        · exact absurd ht (apart_uses_dst h1.1 hxd)
    · obtain ⟨x, hx, hxd⟩ := hw
      rcases R.apart k j x y hx hy hk with h1 | h1
      · exact hbef k h1
      · exact absurd ht (apart_dst_uses h1.1 hxd)
  · obtain ⟨o, w⟩ := p
    refine agree (fun i => look .dead o (S i).heap) _ (writesO Lg ops.size o) (isListed ops.size listed) ops.size j (by omega) (fun i hi hw => ?_) (I.heap0 o) (I.heap1 o) (fun i hi hw => ?_) (fun k hk hw => ?_)
    · exact (stepE_local (R.step i ops[i] (Array.getElem?_eq_getElem hi))).2.2.1 o (fun h => hw ⟨hi, h⟩)
    · rcases Nat.lt_or_ge i j with h | h
      · exact h
      · have hne : i ≠ j := fun h => hun (h ▸ hi)
        rcases R.apart j i y _ hy (Array.getElem?_eq_getElem hw.1) (by omega) with h1 | h1
        · exact absurd h1 (hbef2 i hi)
        · have := apart_logs h1.2 hp hw.2
          cases this.2
    · rcases R.apart k j _ y (Array.getElem?_eq_getElem hw.1) hy hk with h1 | h1
      · exact hbef k h1
      · have := apart_logs h1.2 hw.2 hp
        cases this.1

theorem listed_set {n j k : Nat} {listed : Array Bool} (hs : listed.size = n) (hj : j < n) : isListed n (listed.setIfInBounds j true) k ↔ isListed n listed k ∨ k = j := by
  unfold isListed
  simp only [Array.getD_eq_getD_getElem?]
  by_cases h : j = k
  · subst h
    have : j < listed.size := by omega
    simp [this, hj]
  · rw [Array.getElem?_setIfInBounds_ne h]
    constructor
    · exact .inl
    · rintro (h1 | h1)
      · exact h1
      · exact absurd h1.symm h

/-- THE STEP. -/
theorem inv_step (R : Run X ops base S Lg) (I : Inv ops S Lg listed s) {j : Nat} {y : Oper} (hy : ops[j]? = some y) (hun : ¬ isListed ops.size listed j)
    (hedge : ∀ e ∈ y.after.toList, Region.binds .any e = true → isListed ops.size listed e.on) :
    ∃ s', stepE X ops.toList (base + j) y s = some (s', Lg j) ∧ Inv ops S Lg (listed.setIfInBounds j true) s' := by
  have hj := R.lt hy
  obtain ⟨hu, hl⟩ := ready_agree R I hy hun hedge
  obtain ⟨_, l1, l2, l3⟩ := stepE_local (R.step j y hy)
  obtain ⟨s', e1, e2, e3, e4, e5, e6⟩ := l3 s (I.next.trans (R.next (by omega)).symm) hu hl
  have hbef2 : ∀ i, isListed ops.size listed i → ¬ Bef ops j i := fun i hi hb => hun (I.closed j i hi hb)
  have LS : ∀ k, isListed ops.size (listed.setIfInBounds j true) k ↔ isListed ops.size listed k ∨ k = j := fun k => listed_set I.size hj
  have hwT : ∀ t k, y.dst = some t → isListed ops.size listed k → writesT ops t k → k < j := by
    intro t k hyd hk ⟨x, hx, hxd⟩
    rcases Nat.lt_or_ge k j with h | h
    · exact h
    · have hne : k ≠ j := fun h => hun (h ▸ hk)
      rcases R.apart j k y x hy hx (by omega) with h1 | h1
      · exact absurd h1 (hbef2 k hk)
      · exact absurd hxd (apart_dst_dst h1.1 hyd)
  have hwO : ∀ o k, (o, true) ∈ Lg j → isListed ops.size listed k → writesO Lg ops.size o k → k < j := by
    intro o k ho hk hw
    rcases Nat.lt_or_ge k j with h | h
    · exact h
    · have hne : k ≠ j := fun h => hun (h ▸ hk)
      rcases R.apart j k y _ hy (Array.getElem?_eq_getElem hw.1) (by omega) with h1 | h1
      · exact absurd h1 (hbef2 k hk)
      · have := apart_logs h1.2 ho hw.2
        cases this.1
  refine ⟨s', e1, by simp [I.size], e2.trans (R.next (by omega)), fun t h0 => ?_, fun t i hi hw hmax => ?_, fun o h0 => ?_, fun o i hi hw hmax => ?_, fun i k hk hb => ?_⟩
  · have hyd : y.dst ≠ some t := fun h => h0 j ((LS j).2 (.inr rfl)) ⟨y, hy, h⟩
    rw [e4 t hyd]
    exact I.env0 t fun i hi => h0 i ((LS i).2 (.inl hi))
  · by_cases hyd : y.dst = some t
    · have hij : j ≤ i := hmax j ((LS j).2 (.inr rfl)) ⟨y, hy, hyd⟩
      have : i = j := by
        rcases (LS i).1 hi with h | h
        · have := hwT t i hyd h hw; omega
        · exact h
      subst this
      exact e3 t hyd
    · rw [e4 t hyd]
      have hil : isListed ops.size listed i := by
        rcases (LS i).1 hi with h | h
        · exact h
        · subst h
          obtain ⟨x, hx, hxd⟩ := hw
          rw [hy] at hx; cases hx
          exact absurd hxd hyd
      exact I.env1 t i hil hw fun k hk hwk => hmax k ((LS k).2 (.inl hk)) hwk
  · have hyd : (o, true) ∉ Lg j := fun h => h0 j ((LS j).2 (.inr rfl)) ⟨hj, h⟩
    rw [e6 o hyd]
    exact I.heap0 o fun i hi => h0 i ((LS i).2 (.inl hi))
  · by_cases hyd : (o, true) ∈ Lg j
    · have hij : j ≤ i := hmax j ((LS j).2 (.inr rfl)) ⟨hj, hyd⟩
      have : i = j := by
        rcases (LS i).1 hi with h | h
        · have := hwO o i hyd h hw; omega
        · exact h
      subst this
      exact e5 o hyd
    · rw [e6 o hyd]
      have hil : isListed ops.size listed i := by
        rcases (LS i).1 hi with h | h
        · exact h
        · subst h; exact absurd hw.2 hyd
      exact I.heap1 o i hil hw fun k hk hwk => hmax k ((LS k).2 (.inl hk)) hwk
  · rcases (LS k).1 hk with h | h
    · exact (LS i).2 (.inl (I.closed i k h hb))
    · subst h
      obtain ⟨e, he, hbe, h1⟩ := bef_edge hy (R.back k y hy) hb
      rcases h1 with h1 | h1
      · exact (LS i).2 (.inl (h1 ▸ hedge e he hbe))
      · exact (LS i).2 (.inl (I.closed i _ (hedge e he hbe) h1))

/-- at the end -/
theorem inv_end (R : Run X ops base S Lg) (I : Inv ops S Lg listed s) (hall : ∀ i, i < ops.size → isListed ops.size listed i) : Same s (S ops.size) := by
  refine ⟨I.next.trans (R.next (Nat.le_refl _)).symm, fun t => ?_, fun o => ?_⟩
  · exact agree (fun i => look undefA t (S i).env) _ (writesT ops t) (isListed ops.size listed) ops.size ops.size (Nat.le_refl _)
      (fun i hi hw => (stepE_local (R.step i ops[i] (Array.getElem?_eq_getElem hi))).2.1 t (fun h => hw ⟨_, Array.getElem?_eq_getElem hi, h⟩)) (I.env0 t) (I.env1 t) (fun i hi _ => hi.1) (fun k hk _ => hall k hk)
  · exact agree (fun i => look .dead o (S i).heap) _ (writesO Lg ops.size o) (isListed ops.size listed) ops.size ops.size (Nat.le_refl _)
      (fun i hi hw => (stepE_local (R.step i ops[i] (Array.getElem?_eq_getElem hi))).2.2.1 o (fun h => hw ⟨hi, h⟩)) (I.heap0 o) (I.heap1 o) (fun i hi _ => hi.1) (fun k hk _ => hall k hk)

end
end Go.Am

/- The abstract machine: regions whose order is drawn; code. -/
namespace Go.Am
open Go

section
variable {P : Program} {w0 w w' : World} {Z0 Zp : Zone} {g : G} {X : Cx} {a : Act} {s s' : St} {ops : Array Oper} {Q : Exit → Act → World → Prop} {S : Nat → St} {Lg : Nat → Log} {listed : Array Bool} {base : Nat}

theorem SR.same (h : SR w0 Z0 Zp X s g a w) (e : Same s s') : SR w0 Z0 Zp X s' g a w := by
  have hle : Le Zp s.heap g w s'.heap g w := ⟨fun _ h => h, Keeps.refl _ _, Keeps.refl _ _, fun o _ => by rw [e.heap o]; exact Ob.to.refl _, fun _ _ _ => rfl, fun _ _ _ => ⟨rfl, fun _ _ => rfl⟩⟩
  have hr := h.hr
  refine ⟨fun t => by rw [← e.env t]; exact AR.mono hle _ _ (h.env t), ⟨hr.ext, fun o => ?_, fun o ho => by rw [← e.heap o]; exact hr.dead o ho, fun o b hd hb => hr.home o b (by rw [e.heap o]; exact hd) hb, fun o p b hd hd' hb hb' => hr.dist o p b (by rw [e.heap o]; exact hd) (by rw [e.heap p]; exact hd') hb hb',
    fun o b i ho hb => hr.excl o b i (by rw [e.heap o]; exact ho) hb, fun o b i ho hb => hr.excT o b i (by rw [e.heap o]; exact ho) hb, hr.zlt, hr.zold, hr.z0, hr.zp⟩, h.nt, h.defers⟩
  rw [← e.heap o]
  exact ObR.mono hle (.inr rfl) (fun _ _ _ => rfl) (hr.ob o)

def unl (n : Nat) (listed : Array Bool) : Nat := (List.range n).countP fun i => !listed.getD i true

theorem countP_lt {α : Type} {p q : α → Bool} : ∀ {l : List α}, (∀ x ∈ l, q x = true → p x = true) → (∃ x ∈ l, p x = true ∧ q x = false) → l.countP q < l.countP p
  | [], _, ⟨x, hx, _⟩ => by cases hx
  | y :: l, h, ⟨x, hx, hp, hq⟩ => by
    have hle : l.countP q ≤ l.countP p := List.countP_mono_left fun z hz => h z (by simp [hz])
    rw [List.countP_cons, List.countP_cons]
    by_cases hxy : x = y
    · subst hxy
      simp [hp, hq]; omega
    · have hxl : x ∈ l := by simpa [hxy] using hx
      have ih := countP_lt (p := p) (q := q) (fun z hz => h z (by simp [hz])) ⟨x, hxl, hp, hq⟩
      have hy := h y (by simp)
      cases hqy : q y
      · cases p y <;> simp <;> omega
      · rw [hy hqy]; simp; exact ih

theorem any_sim (hX : CxOK P X) (R : Run X ops base S Lg) : ∀ (fuel : Nat) (listed : Array Bool) (s : St) (g : G) (a : Act) (w : World), Inv ops S Lg listed s → SR w0 Z0 Zp X s g a w →
    (∀ p, g.al p → p < base + ops.size ∧ ∀ i, ¬ isListed ops.size listed i → i < ops.size → p ≠ base + i) → unl ops.size listed ≤ fuel →
    (∀ a' w' g', SR w0 Z0 Zp X (S ops.size) g' a' w' → (∀ p, g'.al p → p < base + ops.size) → Q .normal a' w') → wpAny P .any ops Q fuel listed a w := by
  intro fuel
  induction fuel with
  | zero =>
    intro listed s g a w I hS hal hf hQ
    have hall : ∀ i, i < ops.size → isListed ops.size listed i := fun i hi => ⟨hi, by
      cases hl : listed.getD i true with
      | true => rfl
      | false =>
        have : 0 < unl ops.size listed := List.countP_pos_iff.2 ⟨i, by simpa using hi, by simp only [hl, Bool.not_false]⟩
        omega⟩
    refine ⟨?_, hQ a w g (hS.same (inv_end R I hall)) fun p hp => (hal p hp).1⟩
    rw [Region.ready, List.filter_eq_nil_iff]
    intro i hi
    have := (hall i (by simpa using hi)).2
    simp [this]
  | succ fuel ih =>
    intro listed s g a w I hS hal hf hQ
    refine ⟨fun hr => ?_, fun j hj => ?_⟩
    · have hall : ∀ i, i < ops.size → isListed ops.size listed i := by
        intro i
        induction i using Nat.strongRecOn with
        | _ i ih2 =>
          intro hi
          refine ⟨hi, ?_⟩
          cases hl : listed.getD i true with
          | true => rfl
          | false =>
            exfalso
            have hmem : i ∈ Region.ready .any ops listed := by
              rw [mem_ready]
              refine ⟨hl, ops[i], Array.getElem?_eq_getElem hi, fun e he hb => ?_⟩
              have hlt := R.back i ops[i] (Array.getElem?_eq_getElem hi) e (by simpa using he) hb
              have h1 := (ih2 e.on hlt (by omega)).2
              have : e.on < listed.size := by rw [I.size]; omega
              simpa [Array.getD_eq_getD_getElem?, this] using h1
            rw [hr] at hmem
            cases hmem
      exact hQ a w g (hS.same (inv_end R I hall)) fun p hp => (hal p hp).1
    · rw [mem_ready] at hj
      obtain ⟨hjun, y, hy, hedge⟩ := hj
      have hjn := R.lt hy
      have hun : ¬ isListed ops.size listed j := fun h => by have := h.2; rw [hjun] at this; cases this
      obtain ⟨s', e1, I'⟩ := inv_step R I hy hun fun e he hb => ⟨by have := R.back j y hy e he hb; omega, by
        have h1 := hedge e (by simpa using he) hb
        have hlt : e.on < listed.size := by have := R.back j y hy e he hb; rw [I.size]; omega
        simpa [Array.getD_eq_getD_getElem?, hlt] using h1⟩
      refine step_sim hX hy hS (fun h => (hal _ h).2 j hun hjn rfl) e1 fun a' w' g' hS' hal' => ?_
      refine ih _ s' g' a' w' I' hS' (fun p hp => ?_) ?_ hQ
      · rcases hal' p hp with h | h
        · exact ⟨(hal p h).1, fun i hi hin => (hal p h).2 i (fun hl => hi ((listed_set I.size hjn).2 (.inl hl))) hin⟩
        · subst h
          exact ⟨by omega, fun i hi hin he => hi ((listed_set I.size hjn).2 (.inr (by omega)))⟩
      · have : unl ops.size (listed.setIfInBounds j true) < unl ops.size listed := by
          refine countP_lt (fun i hi hq => ?_) ⟨j, by simpa using hjn, by simp only [hjun, Bool.not_false], ?_⟩
          · cases hl : listed.getD i true with
            | false => rfl
            | true =>
              exfalso
              have := ((listed_set (k := i) I.size hjn).2 (.inl ⟨by simpa using hi, hl⟩)).2
              rw [this] at hq
              cases hq
          · have := ((listed_set (k := j) I.size hjn).2 (.inr rfl)).2
            rw [this]; rfl
        omega

theorem Le.drew : Le Zp s.heap g w s.heap g w.drew :=
  ⟨fun _ h => h, fun _ _ h => ⟨h, rfl⟩, fun _ _ h => ⟨h, rfl⟩, fun _ _ => Ob.to.refl _, fun _ _ _ => rfl, fun _ _ _ => ⟨rfl, fun _ _ => rfl⟩⟩

theorem SR.drew (h : SR w0 Z0 Zp X s g a w) : SR w0 Z0 Zp X s g a w.drew := by
  have hr := h.hr
  exact ⟨fun t => AR.mono Le.drew _ _ (h.env t), ⟨hr.ext.drew, fun o => ObR.mono Le.drew (.inr rfl) (fun _ _ _ => rfl) (hr.ob o), hr.dead, hr.home, hr.dist, hr.excl, hr.excT, hr.zlt, hr.zold, hr.z0, hr.zp⟩, h.nt, h.defers⟩

theorem SR.reserve (h : SR w0 Z0 Zp X s g a w) (n : Nat) : SR w0 Z0 Zp X { s with next := n } g a w := ⟨h.env, h.hr, h.nt, h.defers⟩

/-- A REGION. -/
theorem region_sim {R : Type} (hX : CxOK P X) (hm : P.follows .mixedOrders = true) {id : Nat} {draw : Bool} {K : St → Option R} {r : R} (e : regionK X ops draw K s = some r) (hS : SR w0 Z0 Zp X s g a w) (hal : ∀ p, g.al p → p < s.next)
    (hQ : ∀ s' a' w' g', K s' = some r → SR w0 Z0 Zp X s' g' a' w' → (∀ p, g'.al p → p < s'.next) → Q .normal a' w') : (Code.region id ops draw).wp P Q a w := by
  unfold regionK at e
  simp only at e
  rw [opsK_eq] at e
  cases he : opsE X ops.toList s.next ops.toList { s with next := s.next + ops.toList.length } [] with
  | none => rw [he] at e; cases e
  | some q =>
    obtain ⟨s1, Ls⟩ := q
    rw [he] at e
    simp only [Option.bind_some] at e
    obtain ⟨S, Lg, h0, h1, h2, h3⟩ := opsE_run X ops.toList ops.toList s.next _ [] s1 Ls he
    have hnext : s1.next = s.next + ops.size := by
      have h4 : ∀ i, i ≤ ops.toList.length → (S i).next = s.next + ops.size := by
        intro i
        induction i with
        | zero => intro _; rw [h0]; simp
        | succ i ih =>
          intro hi
          have := stepE_local (h2 i (ops.toList[i]'(by omega)) (List.getElem?_eq_getElem (by omega)))
          rw [this.1]; exact ih (by omega)
      rw [← h1]; exact h4 _ (Nat.le_refl _)
    cases draw with
    | false =>
      refine wp_region ?_
      rw [List.range_eq_range']
      refine opsE_sim hX ops.size 0 s.next ops.toList _ [] s1 Ls g a w (by simp) (fun j => by simp) he (hS.reserve _) hal fun a' w' g' hS' hal' => ?_
      exact hQ s1 a' w' g' e hS' (fun p hp => by rw [hnext]; exact hal' p hp)
    | true =>
      simp only at e
      split at e
      · rename_i hd
        have hrev : Ls.reverse = (List.range ops.size).map Lg := by
          rw [h3]; simp
        rw [hrev] at hd
        unfold drawOK at hd
        simp only [List.all_eq_true] at hd
        have hget : ∀ (j : Nat) (o : Oper), ops[j]? = some o → ops.toList[j]? = some o ∧ ((List.range ops.size).map Lg)[j]? = some (Lg j) ∧ j < ops.size := fun j o ho => by
          have hj : j < ops.size := (Array.getElem?_eq_some_iff.1 ho).1
          exact ⟨by simpa using ho, by simp [hj], hj⟩
        have Rn : Run X ops s.next S Lg := by
          refine ⟨fun i o ho => h2 i o (by simpa using ho), fun j o ho e he hb => ?_, fun i j x y hx hy hij => ?_⟩
          · obtain ⟨g1, g2, g3⟩ := hget j o ho
            have := hd j (by simpa using g3)
            rw [g1, g2] at this
            simp only [Bool.and_eq_true] at this
            have h5 := this.1
            rw [Array.all_eq_true_iff_forall_mem] at h5
            have h6 := h5 e (by simpa using he)
            rw [hb] at h6
            simp [Nat.blt_eq] at h6
            exact h6
          · obtain ⟨g1, g2, g3⟩ := hget j y hy
            obtain ⟨k1, k2, k3⟩ := hget i x hx
            have := hd j (by simpa using g3)
            rw [g1, g2] at this
            simp only [Bool.and_eq_true, List.all_eq_true] at this
            have h5 := this.2 i (by simpa using hij)
            rw [k1, k2] at h5
            simp only [Bool.or_eq_true, Bool.and_eq_true] at h5
            rcases h5 with h5 | h5
            · exact .inl h5
            · exact .inr h5
        refine wp_region_any hm ?_
        have hS0 : SR w0 Z0 Zp X (S 0) g a w.drew := by rw [h0]; exact (hS.reserve _).drew
        have hun : ∀ i, ¬ isListed ops.size (Array.replicate ops.size false) i := fun i h => by
          have h6 := h.2
          simp [Array.getD_eq_getD_getElem?, h.1] at h6
        refine any_sim hX Rn ops.size _ (S 0) g a w.drew ⟨by simp, rfl, fun _ _ => rfl, fun t i hi => absurd hi (hun i), fun _ _ => rfl, fun o i hi => absurd hi (hun i), fun i j hj => absurd hj (hun j)⟩ hS0
          (fun p hp => ⟨by have := hal p hp; omega, fun i _ _ h => by have := hal p hp; omega⟩) ?_ fun a' w' g' hS' hal' => ?_
        · exact Nat.le_trans List.countP_le_length (by simp)
        · have : S ops.size = s1 := by rw [← h1]; simp
          rw [this] at hS'
          exact hQ s1 a' w' g' e hS' (fun p hp => by rw [hnext]; exact hal' p hp)
      · cases e

end
end Go.Am

/- The abstract machine: states taken down and set up again. -/
namespace Go.Am
open Go

section
variable {P : Program} {w0 w : World} {Z0 Zp : Zone} {g G2 : G} {X : Cx} {a : Act} {s s' : St} {H H2 h h1 : Heap} {base next n0 : Nat}

/-- what is handed on, by the old ids (none: the token of a nil slice) -/
structure Hand (g : G) (G2 : G) (n0 : Nat) (ts : List (Option Nat)) : Prop where
  tok : ∀ (i : Nat) (t : Option Nat), ts[i]? = some t → G2.al (n0 + i) ∧ G2.hm (n0 + i) = t.bind g.hm ∧ ∀ o, t = some o → G2.lo (n0 + i) = g.lo o

/-- what is kept under its old id -/
structure Kept (g : G) (H : Heap) (next : Nat) (G2 : G) (H2 : Heap) : Prop where
  al : ∀ o, o < next → g.al o → G2.al o
  ob : ∀ o, o < next → (look .dead o H).to (look .dead o H2)
  hm : ∀ o, o < next → G2.hm o = g.hm o
  z : G2.Z = g.Z

theorem Hand.left {ts us : List (Option Nat)} (h : Hand g G2 n0 (ts ++ us)) : Hand g G2 n0 ts :=
  ⟨fun i t hi => h.tok i t (by rw [List.getElem?_append_left (List.getElem?_eq_some_iff.1 hi).1]; exact hi)⟩

theorem Hand.right {ts us : List (Option Nat)} (h : Hand g G2 n0 (ts ++ us)) : Hand g G2 (n0 + ts.length) us :=
  ⟨fun i t hi => by
    have := h.tok (ts.length + i) t (by rw [List.getElem?_append_right (by omega)]; simpa using hi)
    rw [Nat.add_assoc]; exact this⟩

/-- strikes only add -/
def OnlyDead (h h1 : Heap) : Prop := ∀ o, look .dead o h1 = look .dead o h ∨ look .dead o h1 = .dead
theorem OnlyDead.refl : OnlyDead h h := fun _ => .inl rfl
theorem OnlyDead.trans {h2 : Heap} (a : OnlyDead h h1) (b : OnlyDead h1 h2) : OnlyDead h h2 := fun o => by
  rcases b o with hb | hb
  · rcases a o with ha | ha
    · exact .inl (hb.trans ha)
    · exact .inr (hb.trans ha)
  · exact .inr hb
theorem OnlyDead.dead {h1 : Heap} (a : OnlyDead h h1) {o : Nat} (hd : look .dead o h = .dead) : look .dead o h1 = .dead := by
  rcases a o with ha | ha
  · exact ha.trans hd
  · exact ha
theorem OnlyDead.back {h1 : Heap} (a : OnlyDead h h1) {o : Nat} (hd : look .dead o h1 ≠ .dead) : look .dead o h = look .dead o h1 := by
  rcases a o with ha | ha
  · exact ha.symm
  · exact absurd ha hd
theorem OnlyDead.strike (o : Nat) : OnlyDead h ((o, .dead) :: h) := fun p => by
  rw [look_cons]
  split
  · exact .inr rfl
  · exact .inl rfl

/-- what becomes of the heap while a state is taken down: some objects are struck -/
structure Struck (h h1 : Heap) (ts : List (Option Nat)) : Prop where
  was : ∀ o, some o ∈ ts → look .dead o h ≠ .dead
  gone : ∀ o, some o ∈ ts → look .dead o h1 = .dead
  sub : OnlyDead h h1
  nodup : (ts.filterMap id).Nodup

theorem Struck.nil : Struck h h [] := ⟨fun _ h => by simp at h, fun _ h => by simp at h, OnlyDead.refl, by simp⟩

theorem Struck.one {o : Nat} (ho : look .dead o h ≠ .dead) : Struck h ((o, .dead) :: h) [some o] :=
  ⟨fun p hp => by simp at hp; subst hp; exact ho, fun p hp => by simp at hp; subst hp; rw [look_cons, if_pos rfl], OnlyDead.strike o, by simp⟩

theorem Struck.app {h2 : Heap} {ts us : List (Option Nat)} (a : Struck h h1 ts) (b : Struck h1 h2 us) : Struck h h2 (ts ++ us) := by
  refine ⟨fun o ho => ?_, fun o ho => ?_, a.sub.trans b.sub, ?_⟩
  · rcases List.mem_append.1 ho with ho | ho
    · exact a.was o ho
    · have := b.was o ho
      rw [← a.sub.back this] at this
      exact this
  · rcases List.mem_append.1 ho with ho | ho
    · exact b.sub.dead (a.gone o ho)
    · exact b.gone o ho
  · rw [List.filterMap_append, List.nodup_append]
    refine ⟨a.nodup, b.nodup, fun x hx y hy hxy => ?_⟩
    subst hxy
    exact b.was x (by simpa using hy) (a.gone x (by simpa using hx))

theorem CR.kept (K : Kept g H next G2 H2) {c : C} (hb : belowC next c = true) {v : Value} (hc : CR w base Zp H g c v) : CR w base Zp H2 G2 c v := by
  cases c <;> simp only [belowC, Bool.false_eq_true] at hb
  case vec o =>
    have ho : o < next := by simpa [Nat.blt_eq] using hb
    obtain ⟨h1, h2, h3⟩ := hc
    exact ⟨K.al o ho h1, h2, fun e n he => by
      obtain ⟨b, h4, h5⟩ := h3 e n ((K.ob o ho).row he)
      exact ⟨b, (K.hm o ho).trans h4, h5⟩⟩
  case ptr o off =>
    have ho : o < next := by simpa [Nat.blt_eq] using hb
    obtain ⟨h1, h2, h3⟩ := hc
    exact ⟨K.al o ho h1, h2, fun he => by
      obtain ⟨b, h4, h5⟩ := h3 ((K.ob o ho).alive he)
      exact ⟨b, (K.hm o ho).trans h4, h5⟩⟩
  case clos f ids =>
    obtain ⟨caps, h1, h2⟩ := hc
    refine ⟨caps, h1, ?_⟩
    have : ∀ (ids : List Nat) (vs : List Value), (∀ o ∈ ids, o < next) → PRL (fun o es => g.al o ∧ ∃ u, es = [u] ∧ isPtr u ∧ (look .dead o H ≠ .dead → ∃ b, g.hm o = some b ∧ u = .pointer (some ⟨b, 0, none⟩))) ids vs →
        PRL (fun o es => G2.al o ∧ ∃ u, es = [u] ∧ isPtr u ∧ (look .dead o H2 ≠ .dead → ∃ b, G2.hm o = some b ∧ u = .pointer (some ⟨b, 0, none⟩))) ids vs := by
      intro ids
      induction ids with
      | nil => intro vs _ h; exact h
      | cons o ids ih =>
        intro vs hlt ⟨es, rest, e, ⟨h1, u, h2, h3, h4⟩, h5⟩
        have ho := hlt o (by simp)
        exact ⟨es, rest, e, ⟨K.al o ho h1, u, h2, h3, fun he => by
          obtain ⟨b, h6, h7⟩ := h4 ((K.ob o ho).alive he)
          exact ⟨b, (K.hm o ho).trans h6, h7⟩⟩, ih rest (fun p hp => hlt p (by simp [hp])) h5⟩
    exact this ids _ (fun o ho => by
      simp only [List.all_eq_true] at hb
      simpa [Nat.blt_eq] using hb o ho) h2
  case nilfn => exact hc
  case nilp => exact hc

theorem sameC_eq {c d : C} (h : sameC c d = true) : c = d := by
  cases c <;> cases d <;> simp only [sameC, Bool.false_eq_true, Bool.and_eq_true] at h
  case vec.vec => rw [Nat.eq_of_beq_eq_true h]
  case ptr.ptr => rw [Nat.eq_of_beq_eq_true h.1, Nat.eq_of_beq_eq_true h.2]
  case clos.clos => rw [Nat.eq_of_beq_eq_true h.1, eq_of_beq h.2]
  case nilfn.nilfn => rfl
  case nilp.nilp => rfl

theorem belowA_one {a : A} (h : belowA next a = true) : ∃ c, a = .v false [c] ∧ belowC next c = true := by
  unfold belowA at h
  split at h
  · exact ⟨_, rfl, h⟩
  · cases h

theorem sameA_eq {a b : A} (h : sameA a b = true) : a = b := by
  unfold sameA at h
  split at h
  · rw [sameC_eq h]
  · cases h

/-- all that is handed on is tokens -/
def AllTok (h : Heap) (ts : List (Option Nat)) : Prop := ∀ o, some o ∈ ts → look .dead o h = .tok
theorem AllTok.nil : AllTok h [] := fun _ h => by simp at h
theorem AllTok.app {ts us : List (Option Nat)} (a : AllTok h ts) (b : AllTok h1 us) (d : OnlyDead h h1) : AllTok h (ts ++ us) := fun o ho => by
  rcases List.mem_append.1 ho with ho | ho
  · exact a o ho
  · have := b o ho
    rw [d.back (by rw [this]; simp)]; exact this

/-- a slice hands its token on -/
theorem ownC_sim (hsub : OnlyDead H h) {e : Ty} {c : C} {l : List e.den} {v : Value} (hc : CR w base Zp H g c v) (ho : ownC e c h = some (l, h1)) :
    ∃ t : Option Nat, Struck h h1 [t] ∧ AllTok h [t] ∧ ∀ H2 G2 n0, Hand g G2 n0 [t] → G2.Z = g.Z → CR w base Zp H2 G2 (.sl e l (.own n0)) v := by
  unfold ownC at ho
  split at ho
  · cases ho
    simp only [CR] at hc
    subst hc
    refine ⟨none, ⟨fun o h => by simp at h, fun o h => by simp at h, OnlyDead.refl, by simp⟩, fun o h => by simp at h, fun H2 G2 n0 hh hz => ?_⟩
    obtain ⟨h2, h3, _⟩ := hh.tok 0 none rfl
    exact ⟨⟨none, 0, [], rfl, Nat.le_refl _, rfl, fun h => absurd rfl h⟩, h2, fun _ => .inl ⟨h3, rfl, rfl⟩⟩
  · rename_i e' l' o
    split at ho
    · rename_i htok
      split at ho
      · rename_i l2 hl2
        obtain ⟨he, hl3⟩ := castSl_eq hl2
        subst he; subst hl3
        cases ho
        refine ⟨some o, Struck.one (by rw [htok]; simp), fun p hp => by simp at hp; subst hp; exact htok, fun H2 G2 n0 hh hz => ?_⟩
        obtain ⟨h3, h4, h5⟩ := hh.tok 0 (some o) rfl
        obtain ⟨hp, hal, ht⟩ := hc
        refine ⟨?_, h3, fun _ => ?_⟩
        · rw [hz]; exact hp
        · rcases ht ((hsub.back (by rw [htok]; simp)).trans htok) with ⟨a1, a2, a3⟩ | ⟨b, cap, cur, e0, a1, a2, a3, a4, a5, a6, a7, a8⟩
          · exact .inl ⟨by rw [← Nat.add_zero n0, h4]; exact a1, a2, a3⟩
          · exact .inr ⟨b, cap, cur, e0, by rw [← Nat.add_zero n0, h4]; exact a1, a2, a3, a4, a5, a6, a7, by rw [← Nat.add_zero n0, h5 o rfl]; exact a8⟩
      · cases ho
    · cases ho
  · cases ho

theorem AR.list {agg : Bool} {cs : List C} {v : Value} {τ : Ty} {x : τ.den} (hg : agg = τ.isAgg) (hh : AR w base Zp H g (.v agg cs) v) (hnr : τ.noRef = true) (hx : τ.takeAll cs = some x) (hz : G2.Z = g.Z) : AR w base Zp H2 G2 (.v τ.isAgg (τ.cells x)) v := by
  obtain ⟨vs, h1, h2, h3⟩ := VR.list hh
  have hp := takeAll_PR hnr h1 hx
  rw [← hz] at hp
  have := CRs.of_PR (base := base) (h := H2) (g := G2) τ x vs hp
  rw [← hg]
  cases agg with
  | true => exact ⟨vs, h2 rfl, this⟩
  | false => rw [h3 rfl] at this; exact this

theorem decC_sim (hsub : OnlyDead H h) {k : CK} {c : C} {x : k.den} {v : Value} (hb : CR w base Zp H g c v) (ho : decC next k c h = some (x, h1)) :
    ∃ ts : List (Option Nat), Struck h h1 ts ∧ AllTok h ts ∧ (∀ n0, (encC k x n0).2 = n0 + ts.length) ∧ ∀ H2 G2 n0, Hand g G2 n0 ts → Kept g H next G2 H2 → CRs w base Zp H2 G2 (encC k x n0).1 [v] := by
  unfold decC at ho
  split at ho
  · rename_i τ
    split at ho
    · rename_i hc
      simp only [Bool.and_eq_true] at hc
      split at ho
      · rename_i y hy
        cases ho
        refine ⟨[], Struck.nil, AllTok.nil, fun _ => rfl, fun H2 G2 n0 _ hk => ?_⟩
        have hcs : CRs w base Zp H g [c] [v] := ⟨v, [], rfl, hb, rfl⟩
        have hp := takeAll_PR hc.2 hcs hy
        rw [← hk.z] at hp
        exact CRs.of_PR τ _ [v] hp
      · cases ho
    · cases ho
  · rename_i e
    obtain ⟨t, h2, h3, h4⟩ := ownC_sim hsub hb ho
    exact ⟨[t], h2, h3, fun _ => rfl, fun H2 G2 n0 hh hk => ⟨v, [], rfl, h4 H2 G2 n0 hh hk.z, rfl⟩⟩
  · rename_i d
    split at ho
    · rename_i hc
      simp only [Bool.and_eq_true] at hc
      cases ho
      have := sameC_eq hc.1
      subst this
      exact ⟨[], Struck.nil, AllTok.nil, fun _ => rfl, fun H2 G2 n0 _ hk => ⟨v, [], rfl, CR.kept hk hc.2 hb, rfl⟩⟩
    · cases ho

theorem decCs_sim : ∀ (ks : List CK) (cs : List C) (vs : List Value) (h h1 : Heap) (x : cksDen ks), OnlyDead H h → CRs w base Zp H g cs vs → decCs next ks cs h = some (x, h1) →
    ∃ ts : List (Option Nat), Struck h h1 ts ∧ AllTok h ts ∧ (∀ n0, (encCs ks x n0).2 = n0 + ts.length) ∧ ∀ H2 G2 n0, Hand g G2 n0 ts → Kept g H next G2 H2 → CRs w base Zp H2 G2 (encCs ks x n0).1 vs
  | [], cs, vs, h, h1, x, hsub, hc, ho => by
    cases cs with
    | nil => cases ho; exact ⟨[], Struck.nil, AllTok.nil, fun _ => rfl, fun _ _ _ _ _ => hc⟩
    | cons _ _ => cases ho
  | k :: ks, cs, vs, h, h1, x, hsub, hc, ho => by
    cases cs with
    | nil => cases ho
    | cons c cs =>
      obtain ⟨v, rest, rfl, hc1, hc2⟩ := hc
      simp only [decCs] at ho
      split at ho
      · rename_i y h2 hy
        split at ho
        · rename_i z h3 hz
          cases ho
          obtain ⟨ts, a1, a2, a3, a4⟩ := decC_sim hsub hc1 hy
          obtain ⟨us, b1, b2, b3, b4⟩ := decCs_sim ks cs rest h2 _ z (hsub.trans a1.sub) hc2 hz
          refine ⟨ts ++ us, a1.app b1, a2.app b2 a1.sub, fun n0 => by simp only [encCs, b3, a3, List.length_append]; omega, fun H2 G2 n0 hh hk => ?_⟩
          simp only [encCs]
          rw [a3 n0]
          exact CRs.append _ _ [v] rest (a4 H2 G2 n0 hh.left hk) (b4 H2 G2 _ hh.right hk)
        · cases ho
      · cases ho

theorem decS_data {τ : Ty} {gg : Bool} {cs : List C} : decS next (.data τ) (.v gg cs) h = (match gg == τ.isAgg && τ.noRef with
    | true => match τ.takeAll cs with
      | some x => some (x, h)
      | none => none
    | false => none) := rfl
theorem decS_own {e : Ty} {c : C} : decS next (.own e) (.v false [c]) h = ownC e c h := rfl
theorem decS_fix {a0 b : A} : decS next (.fix a0) b h = (match sameA a0 b && belowA next a0 with
    | true => some ((), h)
    | false => none) := rfl

theorem decS_box {ks : List CK} {o off : Nat} : decS next (.box ks) (.v false [.ptr o off]) h = (match Nat.beq off 0, look .dead o h with
    | true, .cells cs => decCs next ks cs ((o, .dead) :: h)
    | _, _ => none) := rfl

theorem castDen_eq {a b : Ty} {x : a.den} {y : b.den} (hc : castDen a b x = some y) : ∃ h : a = b, y = h ▸ x := by
  unfold castDen at hc
  split at hc
  · rename_i e _
    subst e
    cases hc
    exact ⟨rfl, rfl⟩
  · cases hc
theorem CR.eptrZ {G2 : G} {H2 : Heap} {a : Ty} {x : a.den} {c : Nat} {v : Value} (hz : G2.Z = g.Z) (hh : CR w base Zp H g (.eptr a x c) v) : CR w base Zp H2 G2 (.eptr a x c) v := by
  obtain ⟨b, off, us, e, hp, hu⟩ := hh
  refine ⟨b, off, us, e, ?_, fun j u hj => ?_⟩
  · rw [hz]; exact hp
  · rw [hz]; exact hu j u hj

theorem decS_ref {a a' : Ty} {x : a'.den} {c : Nat} : decS next (.ref a) (.v false [.eptr a' x c]) h = (match Nat.beq c 0, castDen a' a x with
    | true, some x => some (x, h)
    | _, _ => none) := rfl

theorem decS_sim (hsub : OnlyDead H h) (hob : ∀ o, ObR w base Zp H g o (look .dead o H)) {k : SK} {b : A} {x : k.den} {v : Value} (hb : AR w base Zp H g b v) (ho : decS next k b h = some (x, h1)) :
    ∃ ts : List (Option Nat), Struck h h1 ts ∧ (∀ n0, (encS k x n0).2 = n0 + ts.length) ∧
      (∀ n0 p, look .dead p (heapS k x n0) ≠ .dead → n0 ≤ p ∧ ∃ q cs cs', ts[p - n0]? = some (some q) ∧ look .dead q h = .cells cs ∧ look .dead p (heapS k x n0) = .cells cs') ∧
      (∀ n0 i q, ts[i]? = some (some q) → look .dead (n0 + i) (heapS k x n0) = .dead → look .dead q h = .tok) ∧
      ∀ H2 G2 n0, Hand g G2 n0 ts → Kept g H next G2 H2 → AR w base Zp H2 G2 (encS k x n0).1 v ∧ ∀ p, ObR w base Zp H2 G2 p (look .dead p (heapS k x n0)) := by
  cases k with
  | data τ =>
    cases b with
    | tup _ => cases ho
    | v gg cs =>
      rw [decS_data] at ho
      split at ho
      · rename_i hc
        rw [Bool.and_eq_true] at hc
        split at ho
        · rename_i y hy
          cases ho
          exact ⟨[], Struck.nil, fun _ => rfl, fun _ _ hh => absurd rfl hh, fun _ _ _ hh _ => by simp at hh, fun H2 G2 n0 _ hk => ⟨AR.list (toBeq hc.1) hb hc.2 hy hk.z, fun _ => trivial⟩⟩
        · cases ho
      · cases ho
  | own e =>
    rcases b with ⟨gg, cs⟩ | ps
    · rcases gg with _ | _
      · rcases cs with _ | ⟨c, _ | ⟨c2, cs⟩⟩
        · cases ho
        · rw [decS_own] at ho
          obtain ⟨t, h2, h3, h4⟩ := ownC_sim hsub hb.c ho
          exact ⟨[t], h2, fun _ => rfl, fun _ _ hh => absurd rfl hh, fun _ _ q hh _ => h3 q (List.mem_of_getElem? hh), fun H2 G2 n0 hh hk => ⟨AR.ofC (h4 H2 G2 n0 hh hk.z), fun _ => trivial⟩⟩
        · cases ho
      · cases ho
    · cases ho
  | fix a0 =>
    rw [decS_fix] at ho
    split at ho
    · rename_i hc
      rw [Bool.and_eq_true] at hc
      cases ho
      have := sameA_eq hc.1
      subst this
      obtain ⟨c, rfl, hbc⟩ := belowA_one hc.2
      exact ⟨[], Struck.nil, fun _ => rfl, fun _ _ hh => absurd rfl hh, fun _ _ _ hh _ => by simp at hh, fun H2 G2 n0 _ hk => ⟨AR.ofC (CR.kept hk hbc hb.c), fun _ => trivial⟩⟩
    · cases ho
  | ref e =>
    have hf : ∃ a' y c, b = .v false [.eptr a' y c] := by
      rcases b with ⟨gg, cs⟩ | ps
      · rcases gg with _ | _
        · rcases cs with _ | ⟨c, _ | ⟨c2, cs⟩⟩
          · cases ho
          · cases c <;> first | cases ho | exact ⟨_, _, _, rfl⟩
          · cases c <;> cases ho
        · cases ho
      · cases ho
    obtain ⟨a', y, c, rfl⟩ := hf
    rw [decS_ref] at ho
    cases hc0 : Nat.beq c 0 with
    | false => rw [hc0] at ho; cases ho
    | true =>
      rw [hc0] at ho
      have hc0 := Nat.eq_of_beq_eq_true hc0
      subst hc0
      cases hx : castDen a' e y with
      | none => rw [hx] at ho; cases ho
      | some z =>
        rw [hx] at ho
        cases ho
        obtain ⟨rfl, hyz⟩ := castDen_eq hx
        cases hyz
        exact ⟨[], Struck.nil, fun _ => rfl, fun _ _ hh => absurd rfl hh, fun _ _ _ hh _ => by simp at hh, fun H2 G2 n0 _ hk => ⟨AR.ofC (CR.eptrZ hk.z hb.c), fun _ => trivial⟩⟩
  | box ks =>
    have hf : ∃ o off, b = .v false [.ptr o off] := by
      rcases b with ⟨gg, cs⟩ | ps
      · rcases gg with _ | _
        · rcases cs with _ | ⟨c, _ | ⟨c2, cs⟩⟩
          · cases ho
          · cases c <;> first | cases ho | exact ⟨_, _, rfl⟩
          · cases c <;> cases ho
        · cases ho
      · cases ho
    obtain ⟨o, off, rfl⟩ := hf
    rw [decS_box] at ho
    cases hoff : Nat.beq off 0 with
    | false => rw [hoff] at ho; cases ho
    | true =>
      rw [hoff] at ho
      obtain ⟨cs, hcs⟩ : ∃ cs, look .dead o h = .cells cs := by
        cases hl : look Ob.dead o h with
        | cells cs => exact ⟨cs, rfl⟩
        | _ => rw [hl] at ho; cases ho
      rw [hcs] at ho
      replace ho : decCs next ks cs ((o, .dead) :: h) = some (x, h1) := ho
      have hoff := Nat.eq_of_beq_eq_true hoff
      subst hoff
      have hne : look .dead o h ≠ .dead := by rw [hcs]; simp
      have hH : look .dead o H = .cells cs := (hsub.back hne).trans hcs
      obtain ⟨hal, hpt, hd⟩ := hb.c
      obtain ⟨bb, hb1, hv⟩ := hd (by rw [hH]; simp)
      have hob1 := hob o
      rw [hH] at hob1
      obtain ⟨b', cur, e0, hb', hcur, hcr⟩ := hob1
      obtain ⟨us, c1, c2, c3, c4⟩ := decCs_sim ks cs cur.toList _ h1 x (hsub.trans (OnlyDead.strike o)) hcr ho
      have hlk : ∀ n0 p, look .dead p (heapS (.box ks) x n0) = if n0 = p then .cells (encCs ks x (n0 + 1)).1 else .dead := fun n0 p => by
        show look Ob.dead p [(n0, Ob.cells (encCs ks x (n0 + 1)).1)] = _
        rw [look_cons]; rfl
      refine ⟨some o :: us, (Struck.one hne).app c1, fun n0 => ?_, fun n0 p hp => ?_, fun n0 i q hi hd => ?_, fun H2 G2 n0 hh hk => ⟨AR.ofC ?_, fun p => ?_⟩⟩
      · show (encCs ks x (n0 + 1)).2 = _
        rw [c3]; simp; omega
      · rw [hlk] at hp ⊢
        by_cases hp0 : n0 = p
        · subst hp0
          exact ⟨Nat.le_refl _, o, cs, _, by simp, hcs, if_pos rfl⟩
        · rw [if_neg hp0] at hp; exact absurd rfl hp
      · cases i with
        | zero => have := (hlk n0 (n0 + 0)).symm.trans hd; simp at this
        | succ i =>
          have := c2 q (List.mem_of_getElem? (by simpa using hi : us[i]? = some (some q)))
          rw [(OnlyDead.strike o).back (by rw [this]; simp)]
          exact this
      · obtain ⟨k1, k2, k3⟩ := hh.tok 0 (some o) rfl
        exact ⟨k1, hpt, fun _ => ⟨bb, k2.trans hb1, hv⟩⟩
      · rw [hlk]
        split
        · rename_i hp0
          subst hp0
          obtain ⟨k1, k2, k3⟩ := hh.tok 0 (some o) rfl
          refine ⟨b', cur, e0, k2.trans hb', hcur, c4 H2 G2 (n0 + 1) ?_ hk⟩
          exact Hand.right (ts := [some o]) hh
        · trivial

end
end Go.Am
