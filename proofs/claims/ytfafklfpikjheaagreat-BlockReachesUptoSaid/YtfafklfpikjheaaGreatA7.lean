import Derived.Test.YtfafklfpikjheaaGreatA6
import Derived.LoopN
import Derived.Calls
import Derived.Laws.Sem
import Derived.ProofKit
import Derived.JoinedCond
import Derived.WideKeyArgs
import Derived.ChangeArms
set_option linter.unusedVariables false
set_option linter.unusedSimpArgs false
/- The abstract machine: states taken down and set up again, whole. -/
namespace Go.Am
open Go

/-- for these proofs alone -/
noncomputable local instance decDead (x : Ob) : Decidable (x = .dead) := Classical.propDecidable _

section
variable {P : Program} {w0 w : World} {Z0 Zp : Zone} {g G2 : G} {X : Cx} {a : Act} {s s' : St} {H H2 h h1 : Heap} {base next n0 : Nat}

/-- no entry is dead -/
def Alive (E : Heap) : Prop := ∀ p T, look .dead p (E ++ T) = if look .dead p E = .dead then look .dead p T else look .dead p E
theorem Alive.nil : Alive [] := fun _ _ => (if_pos rfl).symm
theorem Alive.cons {E : Heap} {o : Nat} {y : Ob} (hy : y ≠ .dead) (h : Alive E) : Alive ((o, y) :: E) := fun p T => by
  show look .dead p ((o, y) :: (E ++ T)) = _
  rw [look_cons, look_cons]
  by_cases ho : o = p
  · rw [if_pos ho, if_pos ho, if_neg hy]
  · rw [if_neg ho, if_neg ho]; exact h p T
theorem Alive.heapS (k : SK) (x : k.den) (n0 : Nat) : Alive (heapS k x n0) := by
  cases k with
  | box ks => exact Alive.cons (by simp) Alive.nil
  | _ => exact Alive.nil
theorem Alive.app {E F : Heap} (h : Alive E) (k : Alive F) : Alive (E ++ F) := fun p T => by
  rw [List.append_assoc, h, h, k]
  by_cases h1 : look .dead p E = .dead
  · rw [if_pos h1, if_pos h1]
  · rw [if_neg h1, if_neg h1, if_neg h1]

theorem decO_sim (hsub : OnlyDead H h) {k : OK} {o : Nat} {y : Ob} {x : k.den} (hb : ObR w base Zp H g o y) (ho : decO next k y h = some (x, h1)) :
    ∃ ts : List (Option Nat), Struck h h1 ts ∧ AllTok h ts ∧ (∀ n0, (encO k x n0).2 = n0 + ts.length) ∧
      (∀ n0, y.to (encO k x n0).1 ∧ (encO k x n0).1.open? = y.open? ∧ (encO k x n0).1 ≠ .tok ∧ (encO k x n0).1 ≠ .dead ∧ y ≠ .dead ∧ y ≠ .tok) ∧
      ∀ H2 G2 n0, Hand g G2 n0 ts → Kept g H next G2 H2 → G2.hm o = g.hm o → ObR w base Zp H2 G2 o (encO k x n0).1 := by
  cases k with
  | row e =>
    cases y with
    | row e' l =>
      have hq : (match castSl e' e l with | some l => some (l, h) | none => none) = some (x, h1) := ho
      cases hl2 : castSl e' e l with
      | none => rw [hl2] at hq; cases hq
      | some l2 =>
        rw [hl2] at hq
        obtain ⟨he, hl3⟩ := castSl_eq hl2
        subst he; subst hl3
        clear ho
        cases hq
        refine ⟨[], Struck.nil, AllTok.nil, fun _ => rfl, fun _ => ⟨Ob.to.refl _, rfl, by simp [encO], by simp [encO], by simp, by simp⟩, fun H2 G2 n0 _ hk hm => ?_⟩
        obtain ⟨h2, h3, b, cur, e0, h4, h5, h6⟩ := hb
        exact ⟨h2, h3, b, cur, e0, hm.trans h4, h5, by rw [hk.z]; exact h6⟩
    | _ => cases ho
  | frow e =>
    cases y with
    | frow e' l =>
      have hq : (match castSl e' e l with | some l => some (l, h) | none => none) = some (x, h1) := ho
      cases hl2 : castSl e' e l with
      | none => rw [hl2] at hq; cases hq
      | some l2 =>
        rw [hl2] at hq
        obtain ⟨he, hl3⟩ := castSl_eq hl2
        subst he; subst hl3
        clear ho
        cases hq
        refine ⟨[], Struck.nil, AllTok.nil, fun _ => rfl, fun _ => ⟨Ob.to.refl _, rfl, by simp [encO], by simp [encO], by simp, by simp⟩, fun H2 G2 n0 _ hk hm => ?_⟩
        obtain ⟨h2, h3, b, cur, e0, fz, h4, h5, h6, h7⟩ := hb
        exact ⟨h2, h3, b, cur, e0, fz, hm.trans h4, h5, by rw [hk.z]; exact h6, by rw [hk.z]; exact h7⟩
    | _ => cases ho
  | cells ks =>
    cases y with
    | cells cs =>
      have ho : decCs next ks cs h = some (x, h1) := ho
      obtain ⟨b, cur, e0, h4, h5, h6⟩ := hb
      obtain ⟨ts, a1, a2, a3, a4⟩ := decCs_sim ks cs cur.toList h h1 x hsub h6 ho
      refine ⟨ts, a1, a2, a3, fun _ => ⟨.inr (.inr (.inl ⟨_, _, rfl, rfl⟩)), rfl, by simp [encO], by simp [encO], by simp, by simp⟩, fun H2 G2 n0 hh hk hm => ?_⟩
      exact ⟨b, cur, e0, hm.trans h4, h5, a4 H2 G2 n0 hh hk⟩
    | _ => cases ho

/-- what an object that is kept under its id is like -/
structure Listed (H h : Heap) (next : Nat) (ts : List (Option Nat)) (E : Heap) (p : Nat) : Prop where
  lt : p < next
  to : (look .dead p H).to (look .dead p E)
  opn : (look .dead p E).open? = (look .dead p H).open?
  ntok : look .dead p E ≠ .tok
  was : look .dead p h ≠ .dead
  out : some p ∉ ts

theorem decObs_sim (hob : ∀ o, ObR w base Zp H g o (look .dead o H)) : ∀ (l : List (Nat × OK)) (h h1 : Heap) (x : obsDen l), OnlyDead H h → decObs next l h = some (x, h1) →
    ∃ ts : List (Option Nat), Struck h h1 ts ∧ AllTok h ts ∧ (∀ n0, (encObs l x n0).2 = n0 + ts.length) ∧
      (∀ n0, Alive (encObs l x n0).1) ∧
      (∀ n0 o, look .dead o (encObs l x n0).1 ≠ .dead → Listed H h next ts (encObs l x n0).1 o) ∧
      ∀ H2 G2 n0, Hand g G2 n0 ts → Kept g H next G2 H2 → ∀ o, ObR w base Zp H2 G2 o (look .dead o (encObs l x n0).1)
  | [], h, h1, x, hsub, ho => by
    cases ho
    exact ⟨[], Struck.nil, AllTok.nil, fun _ => rfl, fun _ => Alive.nil, fun _ _ hh => absurd rfl hh, fun _ _ _ _ _ _ => trivial⟩
  | (o, k) :: r, h, h1, x, hsub, ho => by
    have ho : (match Nat.blt o next with
      | false => none
      | true => match decO next k (look .dead o h) h with
        | some (x, h) => match decObs next r h with
          | some (y, h) => some ((x, y), h)
          | none => none
        | none => none) = some (x, h1) := ho
    split at ho
    · cases ho
    · rename_i hlt
      have hlt : o < next := by simpa [Nat.blt_eq] using hlt
      split at ho
      · rename_i y h2 hy
        split at ho
        · rename_i z h3 hz
          cases ho
          have hob1 : ObR w base Zp H g o (look .dead o h) := by
            rcases hsub o with h | h
            · rw [h]; exact hob o
            · rw [h]; trivial
          obtain ⟨ts, a1, a2, a3, a4, a5⟩ := decO_sim hsub hob1 hy
          obtain ⟨us, b1, b2, b3, b6, b4, b5⟩ := decObs_sim hob r h2 _ z (hsub.trans a1.sub) hz
          have hlook : ∀ n0 p, look .dead p (encObs ((o, k) :: r) (y, z) n0).1 = if o = p then (encO k y n0).1 else look .dead p (encObs r z (n0 + ts.length)).1 := fun n0 p => by
            show look .dead p ((o, (encO k y n0).1) :: (encObs r z (encO k y n0).2).1) = _
            rw [look_cons, a3]
          have htok : AllTok h (ts ++ us) := a2.app b2 a1.sub
          refine ⟨ts ++ us, a1.app b1, htok, fun n0 => ?_, fun n0 => ?_, fun n0 p hp => ?_, fun H2 G2 n0 hh hk p => ?_⟩
          · show (encObs r z (encO k y n0).2).2 = _
            rw [b3, a3, List.length_append]; omega
          · exact Alive.cons (a4 n0).2.2.2.1 (b6 _)
          · by_cases he : o = p
            · subst he
              obtain ⟨c1, c2, c3, c4, c5, c6⟩ := a4 n0
              have hl := hlook n0 o
              rw [if_pos rfl] at hl
              have hH := hsub.back c5
              exact ⟨hlt, by rw [hl, hH]; exact c1, by rw [hl, hH]; exact c2, by rw [hl]; exact c3, c5, fun hm => c6 (htok o hm)⟩
            · have hl := hlook n0 p
              rw [if_neg he] at hl
              rw [hl] at hp
              obtain ⟨d1, d2, d3, d4, d5, d6⟩ := b4 _ p hp
              refine ⟨d1, by rw [hl]; exact d2, by rw [hl]; exact d3, by rw [hl]; exact d4, ?_, fun hm => ?_⟩
              · rw [a1.sub.back d5]; exact d5
              · rcases List.mem_append.1 hm with hm | hm
                · exact d5 (a1.gone p hm)
                · exact d6 hm
          · rw [hlook]
            split
            · rename_i he
              subst he
              exact a5 H2 G2 n0 hh.left hk (hk.hm _ hlt)
            · exact b5 H2 G2 _ hh.right hk p
        · cases ho
      · cases ho

theorem decSlots_sim (hob : ∀ o, ObR w base Zp H g o (look .dead o H)) {env : Env} {val : Nat → Value} (henv : ∀ t, AR w base Zp H g (look undefA t env) (val t)) (obs : List (Nat × OK)) :
    ∀ (l : List (Nat × SK)) (h h1 : Heap) (x : slotsDen l obs), OnlyDead H h → decSlots next env l obs h = some (x, h1) →
    ∃ ts : List (Option Nat), Struck h h1 ts ∧ (∀ n0, (encSlots l obs x n0).2.2 = n0 + ts.length) ∧
      (∀ n0, Alive (encSlots l obs x n0).2.1) ∧
      (∀ n0 p, look .dead p (encSlots l obs x n0).2.1 ≠ .dead → Listed H h next ts (encSlots l obs x n0).2.1 p ∨
        (n0 ≤ p ∧ ∃ q cs cs', ts[p - n0]? = some (some q) ∧ look .dead q h = .cells cs ∧ look .dead p (encSlots l obs x n0).2.1 = .cells cs')) ∧
      (∀ n0 i q, ts[i]? = some (some q) → look .dead (n0 + i) (encSlots l obs x n0).2.1 = .dead → look .dead q h = .tok) ∧
      ∀ H2 G2 n0, Hand g G2 n0 ts → Kept g H next G2 H2 → (∀ o, ObR w base Zp H2 G2 o (look .dead o (encSlots l obs x n0).2.1)) ∧ ∀ t, AR w base Zp H2 G2 (look undefA t (encSlots l obs x n0).1) (val t)
  | [], h, h1, x, hsub, ho => by
    obtain ⟨ts, a1, a2, a3, a6, a4, a5⟩ := decObs_sim hob obs h h1 x hsub ho
    exact ⟨ts, a1, a3, a6, fun n0 p hp => .inl (a4 n0 p hp), fun n0 i q hi _ => a2 q (List.mem_of_getElem? hi), fun H2 G2 n0 hh hk => ⟨a5 H2 G2 n0 hh hk, fun t => ⟨val t, [], rfl, trivial, rfl⟩⟩⟩
  | (t, k) :: r, h, h1, x, hsub, ho => by
    unfold decSlots at ho
    split at ho
    · rename_i y h2 hy
      split at ho
      · rename_i z h3 hz
        cases ho
        obtain ⟨ts, a1, a3, k1, k2, a4⟩ := decS_sim hsub hob (henv t) hy
        obtain ⟨us, b1, b3, b6, b4, b7, b5⟩ := decSlots_sim hob henv obs r h2 _ z (hsub.trans a1.sub) hz
        have hE : ∀ n0, (encSlots ((t, k) :: r) obs (y, z) n0).2.1 = heapS k y n0 ++ (encSlots r obs z (n0 + ts.length)).2.1 := fun n0 => by
          rw [← a3]; rfl
        have hlook : ∀ n0 p, look .dead p (encSlots ((t, k) :: r) obs (y, z) n0).2.1 = if look .dead p (heapS k y n0) = .dead then look .dead p (encSlots r obs z (n0 + ts.length)).2.1 else look .dead p (heapS k y n0) := fun n0 p => by
          rw [hE, Alive.heapS k y n0]
        refine ⟨ts ++ us, a1.app b1, fun n0 => ?_, fun n0 => ?_, fun n0 p hp => ?_, fun n0 i q hi hd => ?_, fun H2 G2 n0 hh hk => ⟨fun p => ?_, fun p => ?_⟩⟩
        · show (encSlots r obs z (encS k y n0).2).2.2 = _
          rw [b3, a3, List.length_append]; omega
        · rw [hE]; exact (Alive.heapS k y n0).app (b6 _)
        · by_cases hs : look .dead p (heapS k y n0) = .dead
          · have hl := hlook n0 p
            rw [if_pos hs] at hl
            rw [hl] at hp
            rcases b4 _ p hp with ⟨d1, d2, d3, d4, d5, d6⟩ | ⟨d1, q, cs, cs', d2, d3, d4⟩
            · refine .inl ⟨d1, by rw [hl]; exact d2, by rw [hl]; exact d3, by rw [hl]; exact d4, ?_, fun hm => ?_⟩
              · rw [a1.sub.back d5]; exact d5
              · rcases List.mem_append.1 hm with hm | hm
                · exact d5 (a1.gone p hm)
                · exact d6 hm
            · refine .inr ⟨by omega, q, cs, cs', ?_, ?_, by rw [hl]; exact d4⟩
              · rw [List.getElem?_append_right (by omega), ← d2]
                congr 1; omega
              · rw [a1.sub.back (by rw [d3]; simp)]; exact d3
          · have hl := hlook n0 p
            rw [if_neg hs] at hl
            obtain ⟨d1, q, cs, cs', d2, d3, d4⟩ := k1 n0 p hs
            refine .inr ⟨d1, q, cs, cs', ?_, d3, by rw [hl]; exact d4⟩
            rw [List.getElem?_append_left (List.getElem?_eq_some_iff.1 d2).1]; exact d2
        · have hl := hlook n0 (n0 + i)
          rw [hd] at hl
          by_cases hs : look .dead (n0 + i) (heapS k y n0) = .dead
          · rw [if_pos hs] at hl
            by_cases hi2 : i < ts.length
            · rw [List.getElem?_append_left hi2] at hi
              exact k2 n0 i q hi hs
            · rw [List.getElem?_append_right (by omega)] at hi
              have := b7 (n0 + ts.length) (i - ts.length) q hi (by rw [show n0 + ts.length + (i - ts.length) = n0 + i by omega]; exact hl.symm)
              rw [a1.sub.back (by rw [this]; simp)]; exact this
          · rw [if_neg hs] at hl; exact absurd hl.symm hs
        · rw [hlook]
          split
          · exact (b5 H2 G2 _ hh.right hk).1 p
          · exact (a4 H2 G2 n0 hh.left hk).2 p
        · show AR w base Zp H2 G2 (look undefA p ((t, (encS k y n0).1) :: (encSlots r obs z (encS k y n0).2).1)) (val p)
          rw [look_cons]
          split
          · rename_i he
            subst he
            exact (a4 H2 G2 n0 hh.left hk).1
          · rw [a3]
            exact (b5 H2 G2 _ hh.right hk).2 p
      · cases ho
    · cases ho

theorem look_toks (p : Nat) : ∀ n, look .dead p (toks n0 n) = if n0 ≤ p ∧ p < n0 + n then .tok else .dead
  | 0 => by rw [if_neg (by omega)]; rfl
  | n + 1 => by
    show look .dead p ((n0 + n, .tok) :: toks n0 n) = _
    rw [look_cons, look_toks p n]
    by_cases h : n0 + n = p
    · rw [if_pos h, if_pos (by omega)]
    · rw [if_neg h]
      by_cases h2 : n0 ≤ p ∧ p < n0 + n
      · rw [if_pos h2, if_pos (by omega)]
      · rw [if_neg h2, if_neg (by omega)]

theorem nodup_idx : ∀ (ts : List (Option Nat)) (i j t : Nat), (ts.filterMap id).Nodup → ts[i]? = some (some t) → ts[j]? = some (some t) → i = j
  | [], _, _, _, _, h, _ => by simp at h
  | none :: ts, i, j, t, hn, hi, hj => by
    cases i with
    | zero => simp at hi
    | succ i =>
      cases j with
      | zero => simp at hj
      | succ j =>
        have := nodup_idx ts i j t (by simpa using hn) (by simpa using hi) (by simpa using hj)
        omega
  | some u :: ts, i, j, t, hn, hi, hj => by
    simp only [List.filterMap_cons, id, List.nodup_cons] at hn
    have hmem : ∀ k : Nat, ts[k]? = some (some t) → t ∈ ts.filterMap id := fun k hk => List.mem_filterMap.2 ⟨some t, List.mem_of_getElem? hk, rfl⟩
    cases i with
    | zero =>
      cases j with
      | zero => rfl
      | succ j =>
        simp only [List.getElem?_cons_zero, Option.some.injEq] at hi
        subst hi
        exact absurd (hmem j (by simpa using hj)) hn.1
    | succ i =>
      cases j with
      | zero =>
        simp only [List.getElem?_cons_zero, Option.some.injEq] at hj
        subst hj
        exact absurd (hmem i (by simpa using hi)) hn.1
      | succ j =>
        have := nodup_idx ts i j t hn.2 (by simpa using hi) (by simpa using hj)
        omega

/-- A STATE TAKEN DOWN AND SET UP AGAIN stands to the same frame and the same world. -/
theorem dec_sim {N : NS} {x : N.den} (S : SR w0 Z0 Zp X s g a w) (hd : dec N s = some x) :
    ∃ g2, SR w0 Z0 Zp X (enc N x) g2 a w ∧ ∀ p, g2.al p → p < (enc N x).next := by
  unfold dec at hd
  split at hd
  · cases hd
  split at hd
  · rename_i y h1 hy
    cases hd
    obtain ⟨ts, c1, c3, c6, c4, c7, c5⟩ := decSlots_sim S.hr.ob (val := fun t => a.tmps.getD t undef) S.env N.obs N.slots s.heap h1 x OnlyDead.refl hy
    obtain ⟨n0, hn0⟩ : ∃ n0, n0 = N.next := ⟨_, rfl⟩
    obtain ⟨g2, hg2⟩ : ∃ g2 : G, g2 = ⟨fun p => (p < n0 ∧ g.al p) ∨ (n0 ≤ p ∧ p < n0 + ts.length), g.Z, fun p => if p < n0 then g.hm p else ((ts[p - n0]?).bind id).bind g.hm, fun p => match (ts[p - n0]?).bind id with | some o => g.lo o | none => 0⟩ := ⟨_, rfl⟩
    obtain ⟨E, hE⟩ : ∃ E, E = (encSlots N.slots N.obs x n0).2.1 := ⟨_, rfl⟩
    have hheap : (enc N x).heap = E ++ toks n0 ts.length := by
      show _ ++ toks N.next ((encSlots N.slots N.obs x N.next).2.2 - N.next) = _
      rw [c3, hE, hn0, Nat.add_sub_cancel_left]
    have hlook : ∀ p, look .dead p (enc N x).heap = if look .dead p E = .dead then (if n0 ≤ p ∧ p < n0 + ts.length then .tok else .dead) else look .dead p E := fun p => by
      rw [hheap, ← look_toks, hE]; exact c6 n0 p _
    have hnext : (enc N x).next = n0 + ts.length := by
      show (encSlots N.slots N.obs x N.next).2.2 = _
      rw [c3, hn0]
    have hz : g2.Z = g.Z := by rw [hg2]
    have hhm : ∀ p, p < n0 → g2.hm p = g.hm p := fun p hp => by rw [hg2]; exact if_pos hp
    have hE4 : ∀ p, look .dead p E ≠ .dead → Listed s.heap s.heap n0 ts E p ∨ (n0 ≤ p ∧ ∃ q cs cs', ts[p - n0]? = some (some q) ∧ look .dead q s.heap = .cells cs ∧ look .dead p E = .cells cs') := by
      intro p hp
      rw [hE] at hp ⊢
      rw [hn0] at hp ⊢
      exact c4 N.next p hp
    have hhand : Hand g g2 n0 ts := by
      refine ⟨fun i t hi => ?_⟩
      have hlt : i < ts.length := (List.getElem?_eq_some_iff.1 hi).1
      refine ⟨by rw [hg2]; exact .inr (by omega), ?_, fun o ho => ?_⟩
      · rw [hg2]
        show (if n0 + i < n0 then g.hm (n0 + i) else ((ts[n0 + i - n0]?).bind id).bind g.hm) = _
        rw [if_neg (by omega), Nat.add_sub_cancel_left, hi]
        rfl
      · rw [hg2]
        show (match (ts[n0 + i - n0]?).bind id with | some o => g.lo o | none => 0) = _
        rw [Nat.add_sub_cancel_left, hi, ho]
        rfl
    /- whence each living object comes -/
    have horig : ∀ p, look .dead p (enc N x).heap ≠ .dead → (p < n0 ∧ look .dead p s.heap ≠ .dead ∧ (look .dead p s.heap).to (look .dead p (enc N x).heap) ∧ (look .dead p (enc N x).heap).open? = (look .dead p s.heap).open? ∧ look .dead p (enc N x).heap ≠ .tok ∧ some p ∉ ts) ∨
        (n0 ≤ p ∧ p < n0 + ts.length ∧ ∀ q, ts[p - n0]? = some (some q) → look .dead q s.heap ≠ .dead ∧ ((look .dead p (enc N x).heap).open? = true → (look .dead q s.heap).open? = true) ∧ (look .dead p (enc N x).heap = .tok → look .dead q s.heap = .tok)) := by
      intro p hp
      have hl := hlook p
      by_cases hd : look .dead p E = .dead
      · rw [if_pos hd] at hl
        by_cases hr : n0 ≤ p ∧ p < n0 + ts.length
        · rw [if_pos hr] at hl
          refine .inr ⟨hr.1, hr.2, fun q hq => ?_⟩
          have := c7 n0 (p - n0) q hq (by rw [Nat.add_sub_cancel' hr.1, ← hE]; exact hd)
          refine ⟨by rw [this]; simp, fun ho => ?_, fun _ => this⟩
          rw [hl] at ho; cases ho
        · rw [if_neg hr] at hl; exact absurd hl hp
      · rw [if_neg hd] at hl
        rcases hE4 p hd with ⟨d1, d2, d3, d4, d5, d6⟩ | ⟨d1, q, cs, cs', d2, d3, d4⟩
        · exact .inl ⟨d1, d5, by rw [hl]; exact d2, by rw [hl]; exact d3, by rw [hl]; exact d4, d6⟩
        · have hlt := (List.getElem?_eq_some_iff.1 d2).1
          refine .inr ⟨d1, by omega, fun q' hq' => ?_⟩
          rw [d2] at hq'
          cases hq'
          refine ⟨by rw [d3]; simp, fun _ => by rw [d3]; rfl, fun ht => ?_⟩
          rw [hl, d4] at ht; cases ht
    have hkept : Kept g s.heap N.next g2 (enc N x).heap := by
      rw [← hn0]
      refine ⟨fun o ho h => ?_, fun o ho => ?_, fun o ho => hhm o ho, hz⟩
      · rw [hg2]; exact .inl ⟨ho, h⟩
      · by_cases hl : look .dead o (enc N x).heap = .dead
        · exact .inl hl
        · rcases horig o hl with h | h
          · exact h.2.2.1
          · omega
    /- a living object's home is some old object's -/
    have hhome : ∀ p b, look .dead p (enc N x).heap ≠ .dead → g2.hm p = some b → ∃ o, g.hm o = some b ∧ look .dead o s.heap ≠ .dead ∧ ((look .dead p (enc N x).heap).open? = true → (look .dead o s.heap).open? = true) ∧ (look .dead p (enc N x).heap = .tok → look .dead o s.heap = .tok ∧ g2.lo p = g.lo o) ∧
        ((p = o ∧ some p ∉ ts) ∨ (n0 ≤ p ∧ ts[p - n0]? = some (some o))) := by
      intro p b hp hb
      rcases horig p hp with ⟨d1, d2, d3, d4, d5, d6⟩ | ⟨d1, d2, d3⟩
      · exact ⟨p, (hhm p d1) ▸ hb, d2, fun h => d4 ▸ h, fun h => absurd h d5, .inl ⟨rfl, d6⟩⟩
      · have hi : ts[p - n0]? = some ts[p - n0] := List.getElem?_eq_getElem (by omega)
        obtain ⟨k1, k2, k3⟩ := hhand.tok (p - n0) ts[p - n0] hi
        rw [Nat.add_sub_cancel' d1] at k2 k3
        rw [k2] at hb
        cases ht : ts[p - n0] with
        | none => rw [ht] at hb; cases hb
        | some o =>
          rw [ht] at hb hi
          obtain ⟨e1, e2, e3⟩ := d3 o hi
          exact ⟨o, hb, e1, e2, fun h => ⟨e3 h, k3 o ht⟩, .inr ⟨d1, hi⟩⟩
    obtain ⟨k1, k2⟩ := c5 (enc N x).heap g2 n0 hhand hkept
    refine ⟨g2, ⟨fun t => ?_, ?_, S.nt, S.defers⟩, fun p hp => ?_⟩
    · have := k2 t
      rw [hn0] at this
      exact this
    · refine ⟨S.hr.ext, fun o => ?_, fun o ho => ?_, fun o b hl hb => ?_, fun o p b ho hp hb hb' => ?_, fun o b i ho hb => ?_, fun o b i ho hb hzz => ?_, fun b i h => S.hr.zlt b i (by rw [← hz]; exact h), fun b i hb h => S.hr.zold b i hb (by rw [← hz]; exact h), fun b i h => by rw [hz]; exact S.hr.z0 b i h, S.hr.zp⟩
      · rw [hlook]
        split
        · split <;> trivial
        · rw [hE]; exact k1 o
      · by_cases hl : look .dead o (enc N x).heap = .dead
        · exact hl
        · exfalso
          rcases horig o hl with ⟨d1, d2, _⟩ | ⟨d1, d2, _⟩
          · exact ho (by rw [hg2]; exact .inl ⟨d1, Classical.byContradiction fun h => d2 (S.hr.dead o h)⟩)
          · exact ho (by rw [hg2]; exact .inr ⟨d1, d2⟩)
      · obtain ⟨q, h1, h2, _⟩ := hhome o b hl hb
        exact S.hr.home q b h2 h1
      · obtain ⟨q, h1, h2, _, _, h3⟩ := hhome o b ho hb
        obtain ⟨q', h1', h2', _, _, h3'⟩ := hhome p b hp hb'
        have := S.hr.dist q q' b h2 h2' h1 h1'
        subst this
        rcases h3 with ⟨h3, h4⟩ | ⟨h3, h4⟩
        · rcases h3' with ⟨h3', h4'⟩ | ⟨h3', h4'⟩
          · rw [h3, h3']
          · rw [h3] at h4; exact absurd (List.mem_of_getElem? h4') h4
        · rcases h3' with ⟨h3', h4'⟩ | ⟨h3', h4'⟩
          · rw [h3'] at h4'; exact absurd (List.mem_of_getElem? h4) h4'
          · have := nodup_idx ts _ _ q c1.nodup h4 h4'
            omega
      · rw [hz]
        have hl : look .dead o (enc N x).heap ≠ .dead := by intro h; rw [h] at ho; cases ho
        obtain ⟨q, h1, h2, h3, _⟩ := hhome o b hl hb
        exact S.hr.excl q b i (h3 ho) h1
      · rw [hz] at hzz
        have hl : look .dead o (enc N x).heap ≠ .dead := by rw [ho]; simp
        obtain ⟨q, h1, h2, _, h3, _⟩ := hhome o b hl hb
        obtain ⟨h4, h5⟩ := h3 ho
        rw [h5]
        exact S.hr.excT q b i h4 h1 hzz
    · rw [hnext]
      rw [hg2] at hp
      rcases hp with ⟨hp, _⟩ | ⟨_, hp⟩
      · omega
      · exact hp
  · cases hd

end
end Go.Am

/- The abstract machine: code. -/
namespace Go.Am
open Go

section
variable {P : Program} {w0 w : World} {Z0 Zp : Zone} {g : G} {X : Cx} {a : Act} {s : St}

def Ex.out : Ex → Exit
  | .normal => .normal
  | .ret => .ret
  | .exit id => .exit id

theorem sameEx_eq {e f : Ex} (h : sameEx e f = true) : e = f := by
  cases e <;> cases f <;> simp only [sameEx, Bool.false_eq_true] at h
  case normal.normal => rfl
  case ret.ret => rfl
  case exit.exit => rw [Nat.eq_of_beq_eq_true h]

theorem outPut_get {R : Type} {K : Ex → St → Option R} {r : R} {e : Ex} : ∀ (l : List (Ex × NS)) (out : outDen l), outPut l e s = some out → outGet l out K = some r → ∃ (N : NS) (x : N.den), dec N s = some x ∧ K e (enc N x) = some r
  | [], out, h, _ => by cases h
  | [o], out, h, hg => by
    unfold outPut at h
    split at h
    · rename_i he
      rw [← sameEx_eq he]
      exact ⟨o.2, out, h, hg⟩
    · cases h
  | o :: p :: l, out, h, hg => by
    unfold outPut at h
    split at h
    · rename_i he
      split at h
      · rename_i x hx
        cases h
        rw [← sameEx_eq he]
        exact ⟨o.2, x, hx, hg⟩
      · cases h
    · split at h
      · rename_i x hx
        cases h
        exact outPut_get (p :: l) x hx hg
      · cases h

/-- CODE. -/
theorem exec_sim (hX : CxOK P X) (hm : P.follows .mixedOrders = true) : ∀ (c : Code) {R : Type} (K : Ex → St → Option R) (r : R) (Q : Exit → Act → World → Prop) (s : St) (g : G) (a : Act) (w : World),
    execK X c K s = some r → SR w0 Z0 Zp X s g a w → (∀ p, g.al p → p < s.next) → (∀ e s g a w, K e s = some r → SR w0 Z0 Zp X s g a w → (∀ p, g.al p → p < s.next) → Q e.out a w) → c.wp P Q a w := by
  intro c
  induction c with
  | skip => intro R K r Q s g a w e hS hal hQ; exact wp_skip (hQ _ _ _ _ _ e hS hal)
  | region id ops draw =>
    intro R K r Q s g a w e hS hal hQ
    exact region_sim hX hm e hS hal fun s' a' w' g' h1 h2 h3 => hQ .normal s' g' a' w' h1 h2 h3
  | seq x y ihx ihy =>
    intro R K r Q s g a w e hS hal hQ
    refine wp_seq (ihx _ r _ s g a w e hS hal fun e s g a w hk hS hal => ?_)
    cases e with
    | normal => exact ihy _ r _ s g a w hk hS hal hQ
    | ret => exact hQ .ret s g a w hk hS hal
    | exit id => exact hQ (.exit id) s g a w hk hS hal
  | cond c x y ihx ihy =>
    intro R K r Q s g a w e hS hal hQ
    unfold execK at e
    split at e
    · rename_i t ht
      have hc := rho_AR hS.env c
      rw [ht] at hc
      have hc : a.eval c = .bool t := hc.c
      split at e
      · rename_i N hN
        cases hv : brk t (execK X x (joinPut N) s) (execK X y (joinPut N) s) with
        | none => rw [hv] at e; cases e
        | some v =>
          rw [hv] at e
          have e : K .normal (enc N v) = some r := e
          have hj : ∀ (e' : Ex) (s' : St) (g' : G) (a' : Act) (w' : World), joinPut N e' s' = some v → SR w0 Z0 Zp X s' g' a' w' → (∀ p, g'.al p → p < s'.next) → Q e'.out a' w' := by
            intro e' s' g' a' w' h1 h2 h3
            unfold joinPut at h1
            split at h1
            · obtain ⟨g2, h4, h5⟩ := dec_sim h2 h1
              exact hQ .normal _ g2 a' w' e h4 h5
            · cases h1
          cases t with
          | true => exact wp_cond_true hc (ihx _ v _ s g a w hv hS hal hj)
          | false => exact wp_cond_false hc (ihy _ v _ s g a w hv hS hal hj)
      · cases t with
        | true => exact wp_cond_true hc (ihx _ r _ s g a w e hS hal hQ)
        | false => exact wp_cond_false hc (ihy _ r _ s g a w e hS hal hQ)
    · cases e
  | block id x ih =>
    intro R K r Q s g a w e hS hal hQ
    refine wp_block (ih _ r _ s g a w e hS hal fun e s g a w hk hS hal => ?_)
    cases e with
    | normal => exact hQ .normal s g a w hk hS hal
    | ret => exact hQ .ret s g a w hk hS hal
    | exit j =>
      have hk : (match Nat.beq j id with
        | true => K .normal s
        | false => K (.exit j) s) = some r := hk
      split at hk
      · rename_i hj
        rw [Nat.eq_of_beq_eq_true hj]
        have := hQ .normal s g a w hk hS hal
        simpa [Ex.out, Exit.inBlock] using this
      · rename_i hj
        have := hQ (.exit j) s g a w hk hS hal
        have hne : ¬ j = id := by intro h; subst h; simp at hj
        simpa [Ex.out, Exit.inBlock, hne] using this
  | loop x ih =>
    intro R K r Q s g a w e hS hal hQ
    unfold execK at e
    split at e
    · rename_i S hSl
      split at e
      · rename_i v hv
        cases hl : loopV S (fun K s => execK X x K s) X.fuel v with
        | none => rw [hl] at e; cases e
        | some out =>
          rw [hl] at e
          have e : outGet S.outs out K = some r := e
          have key : ∀ (n : Nat) (v : S.vin.den) (g : G) (a : Act) (w : World), loopV S (fun K s => execK X x K s) n v = some out → SR w0 Z0 Zp X (enc S.vin v) g a w → (∀ p, g.al p → p < (enc S.vin v).next) → Code.rounds P x Q n a w := by
            intro n
            induction n with
            | zero => intro v g a w h; cases h
            | succ n ihn =>
              intro v g a w h hS hal
              rw [rounds_succ]
              refine ih _ out _ _ g a w h hS hal fun e' s' g' a' w' hk hS' hal' => ?_
              have hout : outPut S.outs e' s' = some out → Q e'.out a' w' := by
                intro hk
                obtain ⟨N, x, h1, h2⟩ := outPut_get _ out hk e
                obtain ⟨g2, h4, h5⟩ := dec_sim hS' h1
                exact hQ e' _ g2 a' w' h2 h4 h5
              cases e' with
              | normal =>
                have hk : (match dec S.vin s' with
                  | some v => loopV S (fun K s => execK X x K s) n v
                  | none => none) = some out := hk
                split at hk
                · rename_i v' hv'
                  obtain ⟨g2, h4, h5⟩ := dec_sim hS' hv'
                  exact ihn v' g2 a' w' hk h4 h5
                · cases hk
              | ret => exact hout hk
              | exit j => exact hout hk
          obtain ⟨g2, h4, h5⟩ := dec_sim hS hv
          exact wp_loop_rounds X.fuel (key X.fuel v g2 a w hl h4 h5)
      · cases e
    · cases e
  | exit id => intro R K r Q s g a w e hS hal hQ; exact wp_exit (hQ (.exit id) _ _ _ _ e hS hal)
  | ret => intro R K r Q s g a w e hS hal hQ; exact wp_ret (hQ .ret _ _ _ _ e hS hal)
  | _ => intro R K r Q s g a w e hS hal hQ; cases e

end
end Go.Am

/- The abstract machine: a function's call. -/
namespace Go.Am
open Go

section
variable {P : Program} {w0 w : World} {Z0 Zp : Zone} {g : G} {X : Cx} {a : Act} {s : St} {h : Heap}

def packV : List Value → Value
  | [v] => v
  | vs => .tuple vs.toArray

def readR (tmps : Array Value) : ResultVar → Sem Value
  | .tmp t => pure (tmps.getD t undef)
  | .cell a t => do loadVar t (← asAddr (tmps.getD a undef))

theorem results_run (fn : Func) (tmps : Array Value) (vs : List Value) (h : (fn.results.toList.mapM (readR tmps)).run P w = .ok vs w) :
    (results fn tmps).run P w = .ok (packV vs) w := by
  have he : results fn tmps = (fn.results.mapM (readR tmps) >>= fun vs => pure (if h : vs.size = 1 then vs[0] else .tuple vs)) := rfl
  have h2 : (fn.results.mapM (readR tmps)).run P w = .ok vs.toArray w := by
    rw [Array.mapM_eq_mapM_toList, map_eq_pure_bind, Sem.run_bind, h]; rfl
  rw [he, Sem.run_bind, h2]
  simp only [Result.andThen_ok, Sem.run_pure]
  match vs with
  | [] => rfl
  | [v] => rfl
  | u :: v :: vs => rfl

theorem valK_sim {R : Type} {r : R} {τ : Ty} {A0 : A} {v : Value} {k : τ.den → Heap → Option R} (hR : HR w0 Z0 Zp h g w) (ha : AR w w0.heap.size Zp h g A0 v) (e : resultsK.valK s τ A0 h k = some r) :
    ∃ x h1 g1, k x h1 = some r ∧ HR w0 Z0 Zp h1 g1 w ∧ Le Zp h g w h1 g1 w ∧ g1.al = g.al ∧ VT w g1.Z noZone τ x v := by
  unfold resultsK.valK at e
  split at e
  · rename_i gg cs
    split at e
    · rename_i hc
      rw [Bool.and_eq_true] at hc
      rw [HM.run_eq] at e
      obtain ⟨vs, hcs, h1, h2⟩ := VR.list ha
      cases he : (freezeCs true cs fun cs => .ret (.v gg cs)).eval s.next h [] with
      | none => rw [he] at e; cases e
      | some q =>
        rw [he] at e
        obtain ⟨cs', h3, g3, L3, e3, R3, Le3, hg3, hcs3⟩ := freezeCs_true _ _ h g _ _ _ hR hcs he
        have := eval_ret e3
        subst this
        have e : (match τ.takeAll cs' with
          | some x => k x h3
          | none => none) = some r := e
        split at e
        · rename_i x hx
          exact ⟨x, h3, g3, e, R3, Le3, hg3, VT.noRef hc.2 (VT.list (toBeq hc.1) h1 h2 (takeAll_PR hc.2 hcs3 hx))⟩
        · cases e
    · cases e
  · cases e

theorem loadAt_as {t : TypeId} {v u : Value} (h : (Instr.loadAt t v).run P w = .ok u w) : Sem.run P (do loadVar t (← asAddr v)) w = .ok u w := by
  unfold Instr.loadAt at h
  rw [Sem.run_bind] at h ⊢
  unfold Instr.sureAddr at h
  split at h
  · exact h
  · exfalso
    have : Sem.run P (stuck "an address expected (no nilCheck in front?)" : Sem Addr) w = .halt (.stuck "an address expected (no nilCheck in front?)") w := rfl
    rw [this] at h
    cases h

theorem resK_sim {R : Type} {r : R} (hX : XOK P X.tt) {τ : Ty} {rv : ResultVar} {k : τ.den → Heap → Option R} (hR : HR w0 Z0 Zp h g w) (henv : ∀ t, AR w w0.heap.size Zp h g (look undefA t s.env) (a.tmps.getD t undef)) (e : resultsK.resK X s τ rv h k = some r) :
    ∃ v x h1 g1, (readR a.tmps rv).run P w = .ok v w ∧ k x h1 = some r ∧ HR w0 Z0 Zp h1 g1 w ∧ Le Zp h g w h1 g1 w ∧ g1.al = g.al ∧ VT w g1.Z noZone τ x v := by
  unfold resultsK.resK at e
  split at e
  · rename_i t
    obtain ⟨x, h1, g1, h2⟩ := valK_sim hR (henv t) e
    exact ⟨_, x, h1, g1, rfl, h2⟩
  · rename_i b t
    split at e
    · rename_i d hd
      have T := hX _ (lookO_mem hd)
      rw [HM.run_eq] at e
      cases he : (loadM d (look undefA b s.env)).eval s.next h [] with
      | none => rw [he] at e; cases e
      | some q =>
        obtain ⟨r1, h1, L1⟩ := q
        rw [he] at e
        obtain ⟨rfl, u, h2, h3⟩ := loadM_sim hR T (henv b) he
        obtain ⟨x, h4, g1, h5⟩ := valK_sim hR h3 e
        exact ⟨u, x, h4, g1, loadAt_as h2, h5⟩
    · cases e

theorem results_sim {R : Type} {r : R} (hX : XOK P X.tt) : ∀ (rs : List Ty) (rvs : List ResultVar) (h : Heap) (g : G) (k : (tup rs).den → Heap → Option R), HR w0 Z0 Zp h g w → (∀ t, AR w w0.heap.size Zp h g (look undefA t s.env) (a.tmps.getD t undef)) → resultsK X s rs rvs h k = some r →
    ∃ vs x h1 g1, (rvs.mapM (readR a.tmps)).run P w = .ok vs w ∧ k x h1 = some r ∧ HR w0 Z0 Zp h1 g1 w ∧ Le Zp h g w h1 g1 w ∧ ArgsR w g1.Z noZone rs x vs
  | [], [], h, g, k, hR, henv, e => ⟨[], (), h, g, rfl, e, hR, Le.refl _ _ _ _, rfl⟩
  | [], _ :: _, h, g, k, hR, henv, e => by cases e
  | [τ], [], h, g, k, hR, henv, e => by cases e
  | [τ], [rv], h, g, k, hR, henv, e => by
    obtain ⟨v, x, h1, g1, h2, h3, h4, h5, h6, h7⟩ := resK_sim hX hR henv e
    exact ⟨[v], x, h1, g1, by simp [h2], h3, h4, h5, v, rfl, h7⟩
  | [τ], _ :: _ :: _, h, g, k, hR, henv, e => by cases e
  | τ :: σ :: rs, [], h, g, k, hR, henv, e => by cases e
  | τ :: σ :: rs, rv :: rvs, h, g, k, hR, henv, e => by
    obtain ⟨v, x, h1, g1, h2, h3, h4, h5, h6, h7⟩ := resK_sim hX hR henv e
    obtain ⟨vs, y, h8, g2, k2, k3, k4, k5, k6⟩ := results_sim hX (σ :: rs) rvs h1 g1 _ h4 (fun t => AR.mono h5 _ _ (henv t)) h3
    exact ⟨v :: vs, (x, y), h8, g2, by simp [Sem.run_bind, h2, k2], k3, k4, h5.trans k5, v, vs, rfl, VT.mono k5.z (fun _ _ h => h.elim) h7, k6⟩

theorem ResR.of_args {Z Zq : Zone} (rs : List Ty) (x : (tup rs).den) (vs : List Value) (h : ArgsR w Z Zq rs x vs) : ResR w Z Zq rs x (packV vs) := by
  match rs, x, h with
  | [], x, h => have h : vs = [] := h; subst h; exact ⟨[], rfl, rfl⟩
  | [τ], x, ⟨v, e, hv⟩ => subst e; exact hv
  | [τ, σ], x, ⟨v, rest, e, hv, u, e2, hu⟩ => subst e2; subst e; exact ⟨[v, u], rfl, v, [u], rfl, hv, u, rfl, hu⟩
  | τ :: σ :: ρ :: rs, x, ⟨v, rest, e, hv, u, rest2, e2, hu⟩ => subst e2; subst e; exact ⟨v :: u :: rest2, rfl, v, _, rfl, hv, u, rest2, rfl, hu⟩

theorem args_env : ∀ (ps : List Ty) (x : (tup ps).den) (vs : List Value) (n : Nat), ArgsR w g.Z Zp ps x vs → ∀ t, ∃ v, AR w w0.heap.size Zp h g (look undefA t (putArgs n (encArgs ps x))) v ∧ (t < n ∨ n + vs.length ≤ t ∨ vs[t - n]? = some v) ∧ (t < n ∨ n + vs.length ≤ t → look undefA t (putArgs n (encArgs ps x)) = undefA)
  | [], x, vs, n, hv, t => by
    have hv : vs = [] := hv
    subst hv
    exact ⟨undef, ⟨_, [], rfl, trivial, rfl⟩, by simp; omega, fun _ => rfl⟩
  | [τ], x, vs, n, ⟨v, e, hv⟩, t => by
    subst e
    show ∃ v', AR w w0.heap.size Zp h g (look undefA t [(n, encA τ x)]) v' ∧ _ ∧ (_ → look undefA t [(n, encA τ x)] = undefA)
    rw [look_cons]
    by_cases ht : n = t
    · subst ht
      rw [if_pos rfl]
      exact ⟨v, hv.toVR, by simp, fun h => by simp at h; omega⟩
    · rw [if_neg ht]
      exact ⟨undef, ⟨_, [], rfl, trivial, rfl⟩, by simp; omega, fun _ => rfl⟩
  | τ :: σ :: ps, x, vs, n, ⟨v, rest, e, hv, hr⟩, t => by
    subst e
    show ∃ v', AR w w0.heap.size Zp h g (look undefA t ((n, encA τ x.1) :: putArgs (n + 1) (encArgs (σ :: ps) x.2))) v' ∧ _ ∧ (_ → look undefA t ((n, encA τ x.1) :: putArgs (n + 1) (encArgs (σ :: ps) x.2)) = undefA)
    rw [look_cons]
    by_cases ht : n = t
    · subst ht
      rw [if_pos rfl]
      exact ⟨v, hv.toVR, by simp, fun h => by simp at h; omega⟩
    · rw [if_neg ht]
      obtain ⟨u, h1, h2, h3⟩ := args_env (σ :: ps) x.2 rest (n + 1) hr t
      refine ⟨u, h1, ?_, fun h => h3 (by simp at h ⊢; omega)⟩
      rcases h2 with h2 | h2 | h2
      · exact .inl (by omega)
      · exact .inr (.inl (by simp; omega))
      · by_cases h5 : t < n + 1
        · exact .inl (by omega)
        · refine .inr (.inr ?_)
          rw [show t - n = (t - (n + 1)) + 1 by omega]
          simpa using h2

/-- a slice in a list of values, with what its base says of nil -/
theorem sl_tok {Z : Zone} {e0 : Ty} (hs : 0 < e0.size) {x : List e0.den} {v : Value} (hv : VT w Z Zp (.sl e0) x v) (hz : g.Z = Z) :
    AR w w0.heap.size Zp h g (.v false [.sl e0 x .nn]) v ∨ (x = [] ∧ AR w w0.heap.size Zp h g (.v false [.sl e0 [] .nl]) v) := by
  have hv : PR w Z Zp (.sl e0) x [v] := hv
  have hv0 := hv
  obtain ⟨base, cap, us, e1, e2, e3, e4⟩ := hv
  cases e1
  cases base with
  | some b => exact .inl (AR.ofC ⟨by rw [hz]; exact hv0, ⟨_, _, _, rfl⟩⟩)
  | none =>
    have hus : us = [] := by
      cases us with
      | nil => rfl
      | cons u us =>
        obtain ⟨b, off, hb, _⟩ := e4 (by simp)
        cases hb
    subst hus
    have hx : x = [] := by
      have := PRL.length (PR.length e0) _ _ e3
      cases x with
      | nil => rfl
      | cons y l =>
        have h2 : 0 < List.length (y :: l) * e0.size := Nat.mul_pos (Nat.succ_pos _) hs
        rw [← this] at h2
        exact absurd h2 (by simp)
    subst hx
    exact .inr ⟨rfl, AR.ofC ⟨by rw [hz]; exact hv0, ⟨_, _, rfl⟩⟩⟩

/-- A BODY THAT HANDS BACK A SLICE OF ITS OWN, of one slice. -/
theorem osound_of_body {f : FuncId} {fn : Func} {e0 eT : Ty} {F : List e0.den → Option (List eT.den)} (hm : P.follows .mixedOrders = true) (hX : CxOK P X) (hf : P.funcs[f]? = some fn) (hn : (fn.name == "runtime.NumGoroutine") = false) (hb : fn.body.isNone = false) (hnr : eT.noRef = true) (hs : 0 < e0.size)
    (hF : ∀ x l, F x = some l → bodyRunO X fn eT [.v false [.sl e0 x .nn]] = some l ∧ (x = [] → bodyRunO X fn eT [.v false [.sl e0 [] .nl]] = some l)) :
    OSound P f ⟨[.sl e0], eT, F⟩ := by
  refine ⟨⟨fn, hf, hn, hb⟩, hnr, fun w0 Z Zp x r args hz hzp ha e1 => ?_⟩
  obtain ⟨g0, hg0⟩ : ∃ g0 : G, g0 = ⟨fun _ => False, Z, fun _ => none, fun _ => 0⟩ := ⟨_, rfl⟩
  have hZ : g0.Z = Z := by rw [hg0]
  obtain ⟨v, rfl, hv⟩ := ha
  obtain ⟨A0, hA0, e⟩ : ∃ A0, AR w0 w0.heap.size Zp [] g0 A0 v ∧ bodyRunO X fn eT [A0] = some r := by
    rcases sl_tok (w0 := w0) (h := []) hs hv hZ with h1 | ⟨h1, h2⟩
    · exact ⟨_, h1, (hF x r e1).1⟩
    · exact ⟨_, h2, (hF x r e1).2 h1⟩
  unfold bodyRunO at e
  split at e
  · rename_i c t hc hnt hres0
    refine calls_of_wp hf hc ?_
    have hnt : X.nt ≤ fn.ntmps := by simpa [Nat.ble_eq] using hnt
    have hR : HR w0 Z Zp [] g0 w0 := by
      refine ⟨World.Extends.refl _, fun _ => trivial, fun _ _ => rfl, fun o b h => absurd rfl h, fun o p b h => absurd rfl h, fun o b i h => (by cases h), fun o b i h => (by cases h), fun b i h => hz b i (by rw [hZ] at h; exact h), fun b i _ h => by rw [hZ] at h; exact h, fun b i h => by rw [hZ]; exact h, hzp⟩
    have henv : ∀ t, AR w0 w0.heap.size Zp [] g0 (look undefA t (putArgs 0 [A0])) (([v].toArray ++ Array.replicate (fn.ntmps - [v].toArray.size) undef).getD t undef) := by
      intro t
      show AR w0 w0.heap.size Zp [] g0 (look undefA t [(0, A0)]) _
      rw [look_cons]
      by_cases ht : 0 = t
      · subst ht
        rw [if_pos rfl]
        have : ([v].toArray ++ Array.replicate (fn.ntmps - [v].toArray.size) undef).getD 0 undef = v := by
          rw [Array.getD_eq_getD_getElem?, Array.getElem?_append_left (by simp)]
          simp
        rw [this]; exact hA0
      · rw [if_neg ht]
        exact ⟨_, [], rfl, trivial, rfl⟩
    refine exec_sim hX hm c _ r _ _ g0 _ w0 e ⟨henv, hR, ?_, rfl⟩ (fun p hp => by rw [hg0] at hp; exact hp.elim) fun ex s g a w hk hS hal => ?_
    · simp; omega
    · have hres : (match look undefA t s.env with
          | .v false [c] => (ownC eT c s.heap).map (·.1)
          | _ => none) = some r → a.defers = [] ∧ ∃ v, (results fn a.tmps).run P w = .ok v w ∧ ∃ v' ob, Ending.returned v = .returned v' ∧ w0.Extends w ∧ PR w (ZnewO Z w0 w ob (r.length * eT.size)) noZone (.sl eT) r [v'] ∧ OwnR w0 w eT.size r.length ob v' := by
        intro hk
        have hrun : (fn.results.toList.mapM (readR a.tmps)).run P w = .ok [a.tmps.getD t undef] w := by
          rw [hres0]; simp [readR]
        have hst := hS.env t
        split at hk
        · rename_i c hc
          rw [hc] at hst
          have hst := hst.c
          unfold ownC at hk
          split at hk
          · cases hk
            have hst : a.tmps.getD t undef = .slice none 0 0 := hst
            refine ⟨hS.defers, _, results_run fn a.tmps _ hrun, _, none, rfl, hS.hr.ext, ?_, .inl ⟨rfl, hst, rfl⟩⟩
            show PR w _ _ (.sl eT) [] [a.tmps.getD t undef]
            rw [hst]
            exact ⟨none, 0, [], rfl, Nat.le_refl _, rfl, fun h => absurd rfl h⟩
          · rename_i e' l' o _
            split at hk
            · rename_i htok
              split at hk
              · rename_i l hl
                cases hk
                obtain ⟨rfl, rfl⟩ := castSl_eq hl
                obtain ⟨hp, ht⟩ := hst
                have hT := ht.2 htok
                refine ⟨hS.defers, _, results_run fn a.tmps _ hrun, _, g.hm o, rfl, hS.hr.ext, ?_, ?_⟩
                · refine PR.noRef (.sl e') _ _ (by simpa [Ty.noRef] using hnr) (PR.mono (Z := g.Z) (fun b i hb => ⟨?_, rfl⟩) (Keeps.refl _ _) _ _ _ hp)
                  by_cases hlt : b < w0.heap.size
                  · exact .inl (hS.hr.zold b i hlt hb)
                  · refine .inr ⟨by omega, hS.hr.zlt b i hb, fun hob => ?_⟩
                    have h1 := hS.hr.excT o b i htok hob hb
                    rcases hT with ⟨h2, _⟩ | ⟨b', cap, cur, e0', h2, _, _, _, _, _, _, h9⟩
                    · rw [h2] at hob; cases hob
                    · rw [h9] at h1; exact h1
                · rcases hT with ⟨h2, h3, h4⟩ | ⟨b', cap, cur, e0', h2, h3, h4, h5, h6, h7, h8, h9⟩
                  · exact .inl ⟨h2, h3, h4⟩
                  · exact .inr ⟨b', cap, cur, e0', h2, h3, h4, h5, h6, h7, h8⟩
              · cases hk
            · cases hk
          · cases hk
        · cases hk
      cases ex with
      | normal => exact hres hk
      | ret => exact hres hk
      | exit id => cases hk
  · cases e

/-- WHAT A BODY COMPUTES IS WHAT ITS FUNCTION RETURNS. -/
theorem psound_of_body {f : FuncId} {fn : Func} {ps rs : List Ty} (hm : P.follows .mixedOrders = true) (hX : CxOK P X) (hf : P.funcs[f]? = some fn) (hn : (fn.name == "runtime.NumGoroutine") = false) (hb : fn.body.isNone = false) (hnr : rs.all Ty.noRef = true) :
    PSound P f ⟨ps, rs, bodyRun X fn ps rs⟩ := by
  refine ⟨⟨fn, hf, hn, hb⟩, hnr, fun w0 Z Zp x r args hz hzp ha e => ?_⟩
  replace e : bodyRun X fn ps rs x = some r := e
  unfold bodyRun at e
  split at e
  · cases e
  · cases e
  · rename_i c hc hnt
    refine calls_of_wp hf hc ?_
    have hnt : X.nt ≤ fn.ntmps := by simpa [Nat.ble_eq] using hnt
    obtain ⟨g0, hg0⟩ : ∃ g0 : G, g0 = ⟨fun _ => False, Z, fun _ => none, fun _ => 0⟩ := ⟨_, rfl⟩
    have hZ : g0.Z = Z := by rw [hg0]
    have hR : HR w0 Z Zp [] g0 w0 := by
      refine ⟨World.Extends.refl _, fun _ => trivial, fun _ _ => rfl, fun o b h => absurd rfl h, fun o p b h => absurd rfl h, fun o b i h => (by cases h), fun o b i h => (by cases h), fun b i h => hz b i (by rw [hZ] at h; exact h), fun b i _ h => by rw [hZ] at h; exact h, fun b i h => by rw [hZ]; exact h, hzp⟩
    have henv : ∀ t, AR w0 w0.heap.size Zp [] g0 (look undefA t (putArgs 0 (encArgs ps x))) ((args.toArray ++ Array.replicate (fn.ntmps - args.toArray.size) undef).getD t undef) := by
      intro t
      obtain ⟨v, h1, h2, h3⟩ := args_env (w := w0) (w0 := w0) (Zp := Zp) (g := g0) (h := []) ps x args 0 (by rw [hZ]; exact ha) t
      by_cases ht : 0 + args.length ≤ t
      · rw [h3 (.inr ht)]
        exact ⟨_, [], rfl, trivial, rfl⟩
      · have h2 : args[t]? = some v := by
          rcases h2 with h2 | h2 | h2
          · omega
          · omega
          · exact h2
        have hlt : t < args.length := by omega
        have : (args.toArray ++ Array.replicate (fn.ntmps - args.toArray.size) undef).getD t undef = v := by
          rw [Array.getD_eq_getD_getElem?, Array.getElem?_append_left (by simpa using hlt)]
          simp [h2]
        rw [this]; exact h1
    refine exec_sim hX hm c _ r _ _ g0 _ w0 e ⟨henv, hR, ?_, rfl⟩ (fun p hp => by rw [hg0] at hp; exact hp.elim) fun ex s g a w hk hS hal => ?_
    · simp; omega
    · have hres : resultsK X s rs fn.results.toList s.heap (fun r _ => some r) = some r → a.defers = [] ∧ ∃ v, (results fn a.tmps).run P w = .ok v w ∧ ∃ v', Ending.returned v = .returned v' ∧ w0.Extends w ∧ ResR w (Znew Z w0 w) noZone rs r v' := by
        intro hk
        obtain ⟨vs, y, h1, g1, k1, k2, k3, k4, k5⟩ := results_sim hX.tt rs _ _ _ _ hS.hr hS.env hk
        cases k2
        refine ⟨hS.defers, _, results_run fn a.tmps vs k1, _, rfl, hS.hr.ext, ?_⟩
        have hzz : Keeps w w g1.Z (Znew Z w0 w) := fun b i hb => ⟨by
          by_cases hlt : b < w0.heap.size
          · exact .inl (k3.zold b i hlt hb)
          · exact .inr ⟨by omega, k3.zlt b i hb⟩, rfl⟩
        exact ResR.map (p := fun _ => true) (fun τ x v _ hh => VT.mono hzz (Keeps.refl _ _) hh) _ _ _ (by simp) (ResR.of_args rs r vs k5)
      cases ex with
      | normal => exact hres hk
      | ret => exact hres hk
      | exit id => cases hk

end
end Go.Am

/- The abstract machine: from a row's reading of its arguments to typed data; what a law's call leaves. -/
namespace Go.Am
open Go Go.ChangeShapes Go.WideShapes Go.ChangeAt Go.RowKit

/-- the whole numbers within their kinds -/
def wfT : (τ : Ty) → τ.den → Prop
  | .int k, n => k.min ≤ (show Int from n) ∧ (show Int from n) ≤ k.max
  | .sl e, l => ∀ x : e.den, x ∈ (show List e.den from l) → wfT e x
  | .pair a b, x => wfT a x.1 ∧ wfT b x.2
  | .ref a, x => wfT a x
  | _, _ => True

/-- how many values and letters -/
def bulkT : (τ : Ty) → τ.den → Nat
  | .bool, _ => 1
  | .int _, _ => 1
  | .str, s => List.length s + 1
  | .sl e, l => 1 + ((l : List e.den).map (bulkT e)).sum
  | .pair a b, x => bulkT a x.1 + bulkT b x.2
  | .unit, _ => 0
  | .ref a, x => bulkT a x
  | .fn _, _ => 0

def partsOf : Nat → Ty → Option (List Ty)
  | 0, _ => some []
  | 1, τ => some [τ]
  | k + 2, .pair a b => (partsOf (k + 1) b).map (a :: ·)
  | _ + 2, _ => none
def stParts : Nat → Ty → Option (List Ty)
  | 1, .pair a _ => some [a]
  | k, τ => partsOf k τ

def fldsIs (P : Program) (f : Ty → TypeId → Bool) : Nat → List Field → List Ty → Bool
  | _, [], [] => true
  | off, fd :: fs, τ :: τs => Nat.beq fd.offset off && Nat.beq (P.cellsOf fd.type) τ.size && f τ fd.type && fldsIs P f (off + τ.size) fs τs
  | _, _, _ => false

def tyEq (a b : Ty) : Bool := match decEq a b with
  | .isTrue _ => true
  | .isFalse _ => false
theorem tyEq_eq {a b : Ty} (h : tyEq a b = true) : a = b := by
  unfold tyEq at h
  split at h
  · assumption
  · cases h
def kindEq (a b : IntKind) : Bool := match decEq a b with
  | .isTrue _ => true
  | .isFalse _ => false
theorem kindEq_eq {a b : IntKind} (h : kindEq a b = true) : a = b := by
  unfold kindEq at h
  split at h
  · assumption
  · cases h

/-- the type number 't' is this machine's type -/
def tyIs (P : Program) : Nat → Ty → TypeId → Bool
  | 0, _, _ => false
  | n + 1, τ, t => match P.underlying t with
    | some .bool => tyEq τ .bool
    | some (.int k) => tyEq τ (.int k)
    | some .string => tyEq τ .str
    | some (.slice e) => match τ with
      | .sl σ => Nat.beq (P.cellsOf e) σ.size && Nat.blt 0 σ.size && tyIs P n σ e
      | _ => false
    | some (.struct fs) => Nat.beq (P.cellsOf t) τ.size && (match stParts fs.size τ with
      | some l => tyEq (stTy l) τ && fldsIs P (tyIs P n) 0 fs.toList l
      | none => false)
    | _ => false

/-- a way to count that counts no less -/
structure Blk {H : Type} (bk : DataW H → Nat) : Prop where
  lit : ∀ l, 1 ≤ bk (.lit l)
  str : ∀ s, s.length + 1 ≤ bk (.lit (.string s))
  nil : 1 ≤ bk .nil
  slice : ∀ es sp, 1 + (es.map bk).sum ≤ bk (.slice es sp)
  agg : ∀ ps, (ps.map bk).sum ≤ bk (.agg ps)

section
variable {H : Type} {enc : TypeId × Value → H} {P : Program} {w : World} {Zp : Zone} {sp : Nat → Bool} {bk : DataW H → Nat}

theorem cells_get {a : Addr} {n : Nat} {cs : List Value} (h : w.cells? 0 a n = some cs) : cs.length = n ∧ ∀ j, j < n → w.cell? (a.add j) = cs[j]? := by
  unfold World.cells? at h
  rw [if_pos (Nat.zero_le _)] at h
  exact ⟨by simpa using mapM_some_length h, fun j hj => mapM_some_get h j j (by simp [hj])⟩

theorem cell_spot {a : Addr} {v : Value} (h : w.cell? a = some v) : a.spot = none ∧ a.block < w.heap.size := by
  refine ⟨?_, World.block_lt_of_cell? w a h⟩
  unfold World.cell? at h
  split at h
  · split at h
    · cases h
    · rename_i hs; simpa using hs
  · cases h

theorem flds_PR {f : Ty → TypeId → Bool} {n : Nat} {cs : List Value} (hf : ∀ τ t cs d ps, f τ t = true → DataW.trod enc P w 0 sp true n t cs = some (d, ps) → ∃ x : τ.den, PR w (All w) Zp τ x cs ∧ wfT τ x ∧ bulkT τ x ≤ bk d) :
    ∀ (fs : List Field) (l : List Ty) (off : Nat) (xs : List (DataW H × List MemPlace)), fldsIs P f off fs l = true → xs.length = fs.length → cs.length = off + (tup l).size →
      (∀ (i : Nat) (fd : Field), fs[i]? = some fd → DataW.trod enc P w 0 sp true n fd.type ((cs.drop fd.offset).take (P.cellsOf fd.type)) = xs[i]?) →
      ∃ x : (tup l).den, PR w (All w) Zp (tup l) x (cs.drop off) ∧ wfT (tup l) x ∧ bulkT (tup l) x ≤ ((xs.map (·.1)).map bk).sum
  | [], [], off, xs, _, hx, hc, _ => ⟨(), by
      have : cs.length = off := by simpa [tup, Ty.size] using hc
      show cs.drop off = []
      simp [this], trivial, Nat.zero_le _⟩
  | [], _ :: _, _, _, h, _, _, _ => by cases h
  | _ :: _, [], _, _, h, _, _, _ => by cases h
  | fd :: fs, [τ], off, xs, h, hx, hc, ht => by
    simp only [fldsIs, Bool.and_eq_true] at h
    obtain ⟨⟨⟨h1, h2⟩, h3⟩, h4⟩ := h
    cases fs with
    | cons _ _ => cases h4
    | nil =>
      match xs, hx with
      | [x0], _ =>
        have h5 := ht 0 fd rfl
        rw [Nat.eq_of_beq_eq_true h1, Nat.eq_of_beq_eq_true h2] at h5
        obtain ⟨x, a1, a2, a3⟩ := hf τ fd.type _ x0.1 x0.2 h3 (by rw [h5]; rfl)
        have hlen : (cs.drop off).length = τ.size := by rw [List.length_drop, hc]; show off + τ.size - off = τ.size; omega
        rw [← hlen, List.take_length] at a1
        exact ⟨x, a1, a2, by show bulkT τ x ≤ _; simpa using a3⟩
  | fd :: fs, τ :: σ :: l, off, xs, h, hx, hc, ht => by
    simp only [fldsIs, Bool.and_eq_true] at h
    obtain ⟨⟨⟨h1, h2⟩, h3⟩, h4⟩ := h
    match xs, hx with
    | x0 :: xs, hx =>
      have h5 := ht 0 fd rfl
      rw [Nat.eq_of_beq_eq_true h1, Nat.eq_of_beq_eq_true h2] at h5
      obtain ⟨x, a1, a2, a3⟩ := hf τ fd.type _ x0.1 x0.2 h3 (by rw [h5]; rfl)
      obtain ⟨y, b1, b2, b3⟩ := flds_PR hf fs (σ :: l) (off + τ.size) xs h4 (by simpa using hx) (by rw [hc]; show off + (τ.size + (tup (σ :: l)).size) = _; omega) (fun i fd hi => ht (i + 1) fd hi)
      refine ⟨(x, y), ⟨_, _, ?_, a1, b1⟩, ⟨a2, b2⟩, ?_⟩
      · rw [← List.drop_drop, List.take_append_drop]
      · show bulkT τ x + bulkT (tup (σ :: l)) y ≤ _
        simp only [List.map_cons, List.sum_cons]
        omega

theorem sl_PR {n : Nat} {σ : Ty} {e : TypeId} {a : Addr} (hs : 0 < σ.size) (he : P.cellsOf e = σ.size) (hf : ∀ cs d ps, DataW.trod enc P w 0 sp true n e cs = some (d, ps) → ∃ x : σ.den, PR w (All w) Zp σ x cs ∧ wfT σ x ∧ bulkT σ x ≤ bk d) :
    ∀ (elems : List (DataW H × List MemPlace)) (k : Nat), (∀ i, i < elems.length → (w.cells? 0 (a.add ((k + i) * P.cellsOf e)) (P.cellsOf e)).bind (DataW.trod enc P w 0 sp true n e) = elems[i]?) →
      ∃ (l : List σ.den) (us : List Value), l.length = elems.length ∧ PRL (PR w (All w) Zp σ) l us ∧ (∀ x, x ∈ l → wfT σ x) ∧ (l.map (bulkT σ)).sum ≤ ((elems.map (·.1)).map bk).sum ∧ ∀ j u, us[j]? = some u → w.cell? (a.add (k * σ.size + j)) = some u
  | [], k, _ => ⟨[], [], rfl, rfl, fun _ h => (by cases h), Nat.le_refl _, fun j u h => (by simp at h)⟩
  | x0 :: r, k, h => by
    have h0 := h 0 (by simp)
    simp only [Nat.add_zero, List.getElem?_cons_zero, Option.bind_eq_some_iff] at h0
    obtain ⟨cs, h1, h2⟩ := h0
    obtain ⟨x, a1, a2, a3⟩ := hf cs x0.1 x0.2 h2
    obtain ⟨hcl, hcg⟩ := cells_get h1
    obtain ⟨l, us, b1, b2, b3, b4, b5⟩ := sl_PR hs he hf r (k + 1) (fun i hi => by have := h (i + 1) (by simpa using hi); rw [show k + 1 + i = k + (i + 1) by omega]; exact this)
    refine ⟨x :: l, cs ++ us, by simp [b1], ⟨cs, us, rfl, a1, b2⟩, ?_, ?_, ?_⟩
    · intro z hz
      rcases List.mem_cons.1 hz with rfl | hz
      · exact a2
      · exact b3 z hz
    · simp only [List.map_cons, List.sum_cons]; omega
    · intro j u hj
      rw [he] at hcl hcg
      by_cases hlt : j < cs.length
      · rw [List.getElem?_append_left hlt] at hj
        have := hcg j (by omega)
        rw [← hj, ← this, Addr.add_add]
      · rw [List.getElem?_append_right (by omega)] at hj
        have := b5 _ u hj
        rw [← this, hcl, Nat.succ_mul]
        congr 2; omega

/-- A READING IS A TYPED DATUM. -/
theorem trod_PR (B : Blk bk) : ∀ (fuel n : Nat) (τ : Ty) (t : TypeId) (cs : List Value) (d : DataW H) (ps : List MemPlace), tyIs P n τ t = true → DataW.trod enc P w 0 sp true fuel t cs = some (d, ps) →
    ∃ x : τ.den, PR w (All w) Zp τ x cs ∧ wfT τ x ∧ bulkT τ x ≤ bk d
  | fuel, 0, _, _, _, _, _, h, _ => by cases h
  | fuel, n + 1, τ, t, cs, d, ps, h, ht => by
    unfold tyIs at h
    split at h
    · rename_i hu
      obtain ⟨b, rfl, hx⟩ := DataW.trod_bool hu ht
      cases hx
      have := tyEq_eq h; subst this
      exact ⟨b, rfl, trivial, B.lit _⟩
    · rename_i k hu
      obtain ⟨m, rfl, hx, hw⟩ := DataW.trod_int hu ht
      cases hx
      have := tyEq_eq h; subst this
      simp only [Lit.wf, Bool.and_eq_true, decide_eq_true_eq] at hw
      exact ⟨m, rfl, hw, B.lit _⟩
    · rename_i hu
      obtain ⟨s, rfl, hx, _⟩ := DataW.trod_string hu ht
      cases hx
      have := tyEq_eq h; subst this
      refine ⟨s.data.toList, ?_, trivial, B.str _⟩
      show [Value.string s] = [.string ⟨s.data.toList.toArray⟩]
      simp
    · rename_i e hu
      split at h
      · rename_i σ
        simp only [Bool.and_eq_true] at h
        obtain ⟨⟨h1, h2⟩, h3⟩ := h
        have h1 := Nat.eq_of_beq_eq_true h1
        have h2 : 0 < σ.size := by simpa [Nat.blt_eq] using h2
        rcases DataW.trod_slice hu ht with ⟨rfl, hx⟩ | ⟨a, len, cap, elems, rest, m, rfl, rfl, hx, _, hlc, _, hel, hall, _⟩
        · cases hx
          exact ⟨[], ⟨none, 0, [], rfl, Nat.le_refl _, rfl, fun h => absurd rfl h⟩, fun x hx => (by cases hx), B.nil⟩
        · cases hx
          obtain ⟨l, us, b1, b2, b3, b4, b5⟩ := sl_PR (Zp := Zp) (bk := bk) (a := a) h2 h1 (fun cs d ps h => trod_PR B m n σ e cs d ps h3 h) elems 0 (fun i hi => by rw [Nat.zero_add]; exact hall i (by omega))
          refine ⟨l, ?_, b3, ?_⟩
          · refine ⟨some a, cap, us, ?_, by omega, b2, fun hne => ?_⟩
            · rw [show len = List.length l by omega]
            · cases us with
              | nil => exact absurd rfl hne
              | cons u us =>
                have h0 := b5 0 u rfl
                rw [Nat.zero_mul, Nat.add_zero] at h0
                have hsp := cell_spot h0
                simp only [Addr.add, if_true] at hsp
                refine ⟨a.block, a.off, ?_, fun j u hj => ?_⟩
                · obtain ⟨b, o, s⟩ := a
                  simp only at hsp
                  rw [hsp.1]
                · have h1 := b5 j u hj
                  rw [Nat.zero_mul, Nat.zero_add] at h1
                  have h3 : a.add j = ⟨a.block, a.off + j, none⟩ := by
                    obtain ⟨b, o, s⟩ := a
                    simp only at hsp
                    rw [hsp.1]
                    unfold Addr.add
                    split
                    · rename_i h; subst h; rfl
                    · rfl
                  rw [h3] at h1
                  exact ⟨h1, hsp.2⟩
          · have := B.slice (elems.map (·.1)) (rest.map (·.1))
            show 1 + (l.map (bulkT σ)).sum ≤ _
            omega
      · cases h
    · rename_i fs hu
      simp only [Bool.and_eq_true] at h
      obtain ⟨h1, h2⟩ := h
      have h1 := Nat.eq_of_beq_eq_true h1
      split at h2
      · rename_i l hl
        simp only [Bool.and_eq_true] at h2
        have he := tyEq_eq h2.1
        obtain ⟨xs, m, rfl, hx, hcl, hxl, hall⟩ := DataW.trod_struct hu ht
        cases hx
        have hsz : (tup l).size = τ.size := by
          rw [← he]
          match l with
          | [] => rfl
          | [a] => simp [stTy, tup, Ty.size]
          | _ :: _ :: _ => rfl
        obtain ⟨x, a1, a2, a3⟩ := flds_PR (Zp := Zp) (bk := bk) (cs := cs) (f := tyIs P n) (fun τ t cs d ps h h' => trod_PR B m n τ t cs d ps h h') fs.toList l 0 xs h2.2 (by simpa using hxl) (by rw [hcl, h1, hsz]; omega) (fun i fd hi => hall i fd (by simpa using hi))
        have hb := B.agg (xs.map (·.1))
        subst he
        rw [List.drop_zero] at a1
        match l, x, a1, a2, a3 with
        | [], x, a1, a2, a3 => exact ⟨(), a1, trivial, Nat.zero_le _⟩
        | [a], x, a1, a2, a3 => exact ⟨(x, ()), ⟨cs, [], by simp, a1, rfl⟩, ⟨a2, trivial⟩, by show bulkT a x + 0 ≤ _; have a3 : bulkT a x ≤ _ := a3; omega⟩
        | a :: b :: r, x, a1, a2, a3 => exact ⟨x, a1, a2, Nat.le_trans a3 hb⟩
      · cases h2
    · cases h
termination_by _ n => n

theorem tyIs_agg {n : Nat} {τ : Ty} {t : TypeId} (h : tyIs P n τ t = true) : (τ.isAgg = true → ∃ fs, P.underlying t = some (.struct fs)) ∧ (τ.isAgg = false → ∀ base v, Value.okWide P w .any base t v → v.cells = #[v]) := by
  cases n with
  | zero => cases h
  | succ n =>
    unfold tyIs at h
    split at h
    · rename_i hu
      have := tyEq_eq h; subst this
      exact ⟨fun h => (by cases h), fun _ base v hv => by
        cases v <;> first | rfl | simp [Value.okWide, hu, Cell.okWide, Cell.ok] at hv⟩
    · rename_i k hu
      have := tyEq_eq h; subst this
      exact ⟨fun h => (by cases h), fun _ base v hv => by
        cases v <;> first | rfl | simp [Value.okWide, hu, Cell.okWide, Cell.ok] at hv⟩
    · rename_i hu
      have := tyEq_eq h; subst this
      exact ⟨fun h => (by cases h), fun _ base v hv => by
        cases v <;> first | rfl | simp [Value.okWide, hu, Cell.okWide, Cell.ok] at hv⟩
    · rename_i e hu
      split at h
      · exact ⟨fun h => (by cases h), fun _ base v hv => by
          cases v <;> first | rfl | simp [Value.okWide, hu, Cell.okWide, Cell.ok] at hv⟩
      · cases h
    · rename_i fs hu
      refine ⟨fun _ => ⟨fs, hu⟩, fun hf => ?_⟩
      simp only [Bool.and_eq_true] at h
      obtain ⟨_, h2⟩ := h
      split at h2
      · rename_i l _
        simp only [Bool.and_eq_true] at h2
        have he := tyEq_eq h2.1
        rw [← he] at hf
        match l, hf with
        | [], hf => cases hf
        | [_], hf => cases hf
        | _ :: _ :: _, hf => cases hf
      · cases h2
    · cases h

def tysIs (P : Program) (n : Nat) : List Ty → List TypeId → Bool
  | [], [] => true
  | τ :: τs, t :: ts => tyIs P n τ t && tysIs P n τs ts
  | _, _ => false

theorem arg_of_trod (B : Blk bk) {n base : Nat} {τ : Ty} {t : TypeId} {v : Value} {d : DataW H} {ps : List MemPlace} (h : tyIs P n τ t = true) (ht : DataW.Trod enc P w 0 sp true t v d ps) (hok : Value.okWide P w .any base t v) :
    ∃ x : τ.den, VT w (All w) Zp τ x v ∧ wfT τ x ∧ bulkT τ x ≤ bk d := by
  obtain ⟨fuel, ht⟩ := ht
  obtain ⟨x, h1, h2, h3⟩ := trod_PR (Zp := Zp) B fuel n τ t _ d ps h ht
  refine ⟨x, ?_, h2, h3⟩
  unfold VT
  cases ha : τ.isAgg with
  | true =>
    obtain ⟨fs, hu⟩ := (tyIs_agg (w := w) h).1 ha
    unfold Value.okWide at hok
    rw [hu] at hok
    obtain ⟨cs, rfl, _, _⟩ := hok
    exact ⟨cs.toList, by simp, h1⟩
  | false =>
    have := (tyIs_agg (w := w) h).2 ha base v hok
    rw [this] at h1
    exact h1

theorem args_of_trod (B : Blk bk) {n base : Nat} : ∀ (τs : List Ty) (ts : List TypeId) (vs : List Value) (ds : List (DataW H)) (ps : List MemPlace), tysIs P n τs ts = true → DataW.TrodAll enc P w 0 sp true ts vs ds ps →
    (∀ (j : Nat) t v, ts[j]? = some t → vs[j]? = some v → Value.okWide P w .any base t v) → ∃ x : (tup τs).den, ArgsR w (All w) Zp τs x vs ∧ wfT (tup τs) x ∧ bulkT (tup τs) x ≤ (ds.map bk).sum
  | [], [], vs, ds, ps, _, ht, _ => by
    obtain ⟨rfl, rfl, _⟩ := trodAll_nil ht
    exact ⟨(), rfl, trivial, Nat.le_refl _⟩
  | [], _ :: _, _, _, _, h, _, _ => by cases h
  | _ :: _, [], _, _, _, h, _, _ => by cases h
  | [τ], t :: ts, vs, ds, ps, h, ht, hok => by
    simp only [tysIs, Bool.and_eq_true] at h
    obtain ⟨h1, h2⟩ := h
    cases ts with
    | cons _ _ => cases h2
    | nil =>
      obtain ⟨v, vs', d, ds', p, q, rfl, rfl, _, h3, h4⟩ := trodAll_cons ht
      obtain ⟨rfl, rfl, _⟩ := trodAll_nil h4
      obtain ⟨x, a1, a2, a3⟩ := arg_of_trod (Zp := Zp) B h1 h3 (hok 0 t v rfl rfl)
      exact ⟨x, ⟨v, rfl, a1⟩, a2, by show bulkT τ x ≤ _; simpa using a3⟩
  | τ :: σ :: τs, t :: ts, vs, ds, ps, h, ht, hok => by
    simp only [tysIs, Bool.and_eq_true] at h
    obtain ⟨h1, h2⟩ := h
    obtain ⟨v, vs', d, ds', p, q, rfl, rfl, _, h3, h4⟩ := trodAll_cons ht
    obtain ⟨x, a1, a2, a3⟩ := arg_of_trod (Zp := Zp) B h1 h3 (hok 0 t v rfl rfl)
    obtain ⟨y, b1, b2, b3⟩ := args_of_trod B (σ :: τs) ts vs' ds' q (by simpa [tysIs] using h2) h4 (fun j t v h h' => hok (j + 1) t v h h')
    refine ⟨(x, y), ⟨v, vs', rfl, a1, b1⟩, ⟨a2, b2⟩, ?_⟩
    show bulkT τ x + bulkT (tup (σ :: τs)) y ≤ _
    simp only [List.map_cons, List.sum_cons]
    omega

theorem trodAll_stays (hl : laidOutB P = true) {W W' : World} (he : W.Extends W') {sp' : Nat → Bool} : ∀ (ts : List TypeId) (vs : List Value) (ds : List (DataW H)) (ps : List MemPlace), (ts.all fun t => P.readableRec t && decide (t < P.types.size)) = true →
    DataW.TrodAll enc P W 0 (fun _ => true) true ts vs ds ps → (∀ p ∈ ps, p.block < W.heap.size) → (∀ p ∈ ps, sp' p.block = true) → DataW.TrodAll enc P W' 0 sp' true ts vs ds ps
  | [], vs, ds, ps, _, ht, _, _ => by
    obtain ⟨rfl, rfl, rfl⟩ := trodAll_nil ht
    rfl
  | t :: ts, vs, ds, ps, hr, ht, hlt, hsp => by
    obtain ⟨v, vs', d, ds', p, q, rfl, rfl, rfl, h3, h4⟩ := trodAll_cons ht
    simp only [List.all_cons, Bool.and_eq_true, decide_eq_true_eq] at hr
    have hb : Below W.heap.size W W' := ⟨he.os, he.tape, he.output, he.size, fun k hk => he.block k hk⟩
    exact ⟨p, q, WideElems.Trod_stays hl hr.1.1 hr.1.2 h3 (fun x hx => hb.same (hlt x (List.mem_append_left _ hx))) (fun x hx => hsp x (List.mem_append_left _ hx)),
      trodAll_stays hl he ts vs' ds' q hr.2 h4 (fun x hx => hlt x (List.mem_append_right _ hx)) (fun x hx => hsp x (List.mem_append_right _ hx)), rfl⟩

theorem kept_ext {W W' : World} (he : W.Extends W') (may : MemPlace → Prop) : W.keptBut W' may := by
  refine ⟨he.os, he.output, fun i hi => ?_⟩
  rw [he.block i hi]
  cases W.heap[i]? with
  | none => trivial
  | some o => cases o <;> simp

/-- WHAT A LAW's CALL LEAVES: 'true', and all as it was. -/
theorem law_post {f : Func} {s : ChangeSpec} {W W' : World} {args : Array Value} {ds gs : List (DataW H)} {before : List MemPlace} {tb : TypeId} (hl : laidOutB P = true) (hr : (f.params.toList.all fun t => P.readableRec t && decide (t < P.types.size)) = true)
    (hres : f.resultTypes = #[tb]) (htb : P.underlying tb = some .bool) (hv : s.vars = []) (hs : (s.fn H (ds ++ gs)).results = [.lit (.bool true)] ∧ (s.fn H (ds ++ gs)).args = ds ∧ (s.fn H (ds ++ gs)).vars = [])
    (hW : DataW.Whole enc P f.params.toList s.vars false W args.toList ds gs before) (he : W.Extends W') :
    s.post enc P f false true false false W args (.bool true) W' := by
  have hlt := hW.lt
  have hW0 := hW
  obtain ⟨pa, pv, hA, hV, rfl, hz, hn⟩ := hW
  rw [hv] at hV
  have hV' : gs = [] ∧ pv = [] := by
    cases gs with
    | nil => exact ⟨rfl, hV⟩
    | cons _ _ => exact hV.elim
  obtain ⟨rfl, rfl⟩ := hV'
  have hold : ∀ p ∈ pa ++ [], (fun b => decide (b < W.heap.size)) p.block = true := fun p hp => by simpa using hlt p hp
  have hre : ∀ (b : Nat) (sp : Nat → Bool) (hd : Bool), DataW.TrodAll enc P W' b sp hd f.resultTypes.toList ((Value.bool true).resultList f.resultTypes.size) (s.fn H (ds ++ [])).results [] := fun b sp hd => by
    rw [hres, hs.1]
    exact trodAll_mk1 (shut_bool htb true)
  have har : ∀ sp : Nat → Bool, (∀ p ∈ pa ++ [], sp p.block = true) → DataW.TrodAll enc P W' 0 sp true f.params.toList args.toList (s.fn H (ds ++ [])).args pa := fun sp hsp => by
    rw [hs.2.1]
    exact trodAll_stays hl he _ _ _ _ hr hA (fun p hp => hlt p (List.mem_append_left _ hp)) (fun p hp => hsp p (List.mem_append_left _ hp))
  have hva : ∀ sp : Nat → Bool, DataW.TrodVars enc P W' sp s.vars (s.fn H (ds ++ [])).vars [] := fun sp => by
    rw [hs.2.2, hv]; rfl
  have hps : pa ++ [] = pa ++ ([] : List MemPlace) := rfl
  refine ⟨ds, [], pa ++ [], [], pa, [], hW0, hre _ _ _, har _ hold, hva _, World.keptBut_mono (fun p hp => ⟨hp, ?_⟩) (kept_ext he (· ∈ pa ++ [])), fun _ => ?_⟩
  · exact Or.inr (by simpa using hp)
  · refine ⟨ok_one hres rfl (okWide_bool_mk htb true), _, _, ([] ++ pa) ++ [], ⟨[] ++ pa, [], trodAll_append (har _ (fun _ _ => rfl)) (hre _ _ _), hva _, rfl, ?_, ?_⟩, ?_⟩
    · intro b off hp
      have hp' : MemPlace.cell b off ∈ pa ++ [] := by simpa using hp
      rw [he.frozen ⟨b, off, none⟩ (hlt _ hp')]
      exact hz b off hp'
    · intro ha; cases ha
    · intro p hp _
      simpa using hp

/-- A LAW's CALL. -/
theorem law_calls {f : FuncId} {fn : Func} {τs : List Ty} {E : Nat → (tup τs).den → Option Bool} (S : ∀ n, PSound P f ⟨τs, [.bool], E n⟩) {n base N : Nat} {tb : TypeId} (B : Blk bk) (hl : laidOutB P = true) (hty : tysIs P n τs fn.params.toList = true)
    (hr : (fn.params.toList.all fun t => P.readableRec t && decide (t < P.types.size)) = true) (hres : fn.resultTypes = #[tb]) (htb : P.underlying tb = some .bool) {s : ChangeSpec} (hv : s.vars = [])
    {W : World} {args : Array Value} {ds gs : List (DataW H)} {before : List MemPlace} (hs : (s.fn H (ds ++ gs)).results = [.lit (.bool true)] ∧ (s.fn H (ds ++ gs)).args = ds ∧ (s.fn H (ds ++ gs)).vars = [])
    (hval : ∀ (j : Nat) t v, fn.params[j]? = some t → args[j]? = some v → Value.okWide P W .any base t v)
    (hW : DataW.Whole enc P fn.params.toList s.vars false W args.toList ds gs before) (hN : (ds.map bk).sum ≤ N)
    (pure : ∀ x : (tup τs).den, wfT (tup τs) x → bulkT (tup τs) x ≤ N → ∃ n, E n x = some true) :
    Calls P f args W fun e W' => ∃ v, e = .returned v ∧ s.post enc P fn false true false false W args v W' := by
  obtain ⟨pa, pv, hA, _, _, _, _⟩ := id hW
  obtain ⟨x, h1, h2, h3⟩ := args_of_trod (Zp := noZone) (base := base) B τs _ _ _ _ hty hA (fun j t v h h' => hval j t v (by simpa using h) (by simpa using h'))
  obtain ⟨m, hm⟩ := pure x h2 (Nat.le_trans h3 hN)
  have hc := (S m).calls W (All W) noZone x true args.toList (fun b i h => h) (fun b i h => h.elim) h1 hm
  rw [Array.toArray_toList] at hc
  refine hc.mono fun e W' ⟨v, he, hext, hr'⟩ => ⟨v, he, ?_⟩
  have hv' : v = .bool true := by
    have : PR W' (Znew (All W) W W') noZone .bool true [v] := hr'
    simp only [PR] at this
    injection this
  subst hv'
  exact law_post hl hr hres htb hv hs hW hext

end
end Go.Am
