import Derived.Test.YtfafklfpikjheaaGreatA1
import Derived.Deep.AppendSrc
set_option linter.unusedVariables false
set_option linter.unusedSimpArgs false
/- The abstract machine: how the heap turns, and that it goes on standing to the world. -/
namespace Go.Am
open Go

theorem look_cons {α : Type} (d : α) (t u : Nat) (x : α) (r : List (Nat × α)) : look d t ((u, x) :: r) = if u = t then x else look d t r := by
  by_cases h : u = t
  · subst h; simp [look]
  · have : Nat.beq u t = false := by
      cases hb : Nat.beq u t with
      | false => rfl
      | true => exact absurd (Nat.eq_of_beq_eq_true hb) h
    simp [look, this, h]

def upd {α : Type} (f : Nat → α) (n : Nat) (x : α) (o : Nat) : α := if o = n then x else f o
theorem upd_same {α : Type} (f : Nat → α) (n : Nat) (x : α) : upd f n x n = x := by simp [upd]
theorem upd_other {α : Type} (f : Nat → α) {n o : Nat} (x : α) (h : o ≠ n) : upd f n x o = f o := by simp [upd, h]

section
variable {w0 w w' : World} {Z0 Zp : Zone} {h h' : Heap} {g g' : G}

theorem HR.alive (R : HR w0 Z0 Zp h g w) {o : Nat} (hd : look .dead o h ≠ .dead) : g.al o := by
  by_cases ha : g.al o
  · exact ha
  · exact absurd (R.dead o ha) hd

theorem HR.base_le (R : HR w0 Z0 Zp h g w) : w0.heap.size ≤ w.heap.size := R.ext.size

theorem HR.zpk (_ : HR w0 Z0 Zp h g w) (hs : ∀ b, b < w0.heap.size → w'.heap[b]? = w.heap[b]?) (hzp : ∀ b i, Zp b i → b < w0.heap.size) : Keeps w w' Zp Zp :=
  fun b i hz => ⟨hz, World.cell?_of_block (hs b (hzp b i hz))⟩

theorem ObR.mono {base : Nat} (L : Le Zp h g w h' g' w') {o : Nat} {x : Ob} (hx : x = .dead ∨ g'.hm o = g.hm o) (hb : x ≠ .dead → ∀ b, g.hm o = some b → w'.heap[b]? = w.heap[b]?)
    (hh : ObR w base Zp h g o x) : ObR w' base Zp h' g' o x := by
  cases x with
  | dead => trivial
  | tok => trivial
  | cells cs =>
    obtain ⟨b, cur, e0, h1, h2, h3⟩ := hh
    rcases hx with hx | hx
    · cases hx
    · exact ⟨b, cur, e0, hx.trans h1, (hb (by simp) b h1).trans h2, CRs.mono L _ _ h3⟩
  | row e l =>
    obtain ⟨h0, h00, b, cur, e0, h1, h2, h3⟩ := hh
    rcases hx with hx | hx
    · cases hx
    · exact ⟨h0, h00, b, cur, e0, hx.trans h1, (hb (by simp) b h1).trans h2, PRL.mono (fun x es hx => PR.mono L.z L.zp _ _ _ hx) _ _ h3⟩
  | frow e l =>
    obtain ⟨h0, h00, b, cur, e0, fz, h1, h2, h3, h4⟩ := hh
    rcases hx with hx | hx
    · cases hx
    · exact ⟨h0, h00, b, cur, e0, fz, hx.trans h1, (hb (by simp) b h1).trans h2, PRL.mono (fun x es hx => PR.mono L.z L.zp _ _ _ hx) _ _ h3, fun i hi => (L.z b i (h4 i hi)).1⟩

/-- what a new object may be: an own block, or a token, its first 'k' cells handed on as data -/
def newG (g : G) (new : Nat) (b : Option Nat) (k : Nat) : G :=
  { al := fun o => g.al o ∨ o = new, Z := fun c i => g.Z c i ∨ (b = some c ∧ i < k), hm := upd g.hm new b, lo := upd g.lo new k }

/-- a new block (the tape may have been asked) -/
theorem Le.alloc (R : HR w0 Z0 Zp h g w) {y : Obj} {new : Nat} (hn : ¬ g.al new) (x : Ob) (k : Nat) (hw : w'.heap = w.heap.push y) :
    Le Zp h g w ((new, x) :: h) (newG g new (some w.heap.size) k) w' := by
  have hold : ∀ b : Nat, b < w.heap.size → w'.heap[b]? = w.heap[b]? := fun b hb => by rw [hw, Array.getElem?_push, if_neg (Nat.ne_of_lt hb)]
  refine ⟨fun o ha => .inl ha, fun b i hz => ⟨.inl hz, World.cell?_of_block (hold b (R.zlt b i hz))⟩,
    R.zpk (fun b hb => hold b (Nat.lt_of_lt_of_le hb R.base_le)) R.zp, fun o ha => ?_, fun o ha _ => ?_, fun o ha ht => ?_⟩
  · have hne : new ≠ o := fun e => hn (e ▸ ha)
    rw [look_cons, if_neg hne]
    exact Ob.to.refl _
  · have hne : o ≠ new := fun e => hn (e ▸ ha)
    exact upd_other _ _ hne
  · have hne : o ≠ new := fun e => hn (e ▸ ha)
    rw [look_cons, if_neg (Ne.symm hne)] at ht
    exact ⟨upd_other _ _ hne, fun b hb => hold b (R.home o b (by rw [ht]; simp) hb).2⟩

theorem HR.alloc (R : HR w0 Z0 Zp h g w) {y : Obj} {new : Nat} (hn : ¬ g.al new) (x : Ob) (k : Nat) (hw : w'.heap = w.heap.push y) (he : w0.Extends w')
    (hx : ObR w' w0.heap.size Zp ((new, x) :: h) (newG g new (some w.heap.size) k) new x) (ho : x.open? = true → k = 0) :
    HR w0 Z0 Zp ((new, x) :: h) (newG g new (some w.heap.size) k) w' := by
  have L := Le.alloc R hn x k hw
  have hold : ∀ b : Nat, b < w.heap.size → w'.heap[b]? = w.heap[b]? := fun b hb => by rw [hw, Array.getElem?_push, if_neg (Nat.ne_of_lt hb)]
  have hsz : w'.heap.size = w.heap.size + 1 := by rw [hw]; simp
  have lk : ∀ o, o ≠ new → look .dead o ((new, x) :: h) = look .dead o h := fun o hne => by rw [look_cons, if_neg (Ne.symm hne)]
  have lkn : look .dead new ((new, x) :: h) = x := by rw [look_cons, if_pos rfl]
  have hmo : ∀ o, o ≠ new → (newG g new (some w.heap.size) k).hm o = g.hm o := fun o hne => upd_other _ _ hne
  have hmn : (newG g new (some w.heap.size) k).hm new = some w.heap.size := upd_same _ _ _
  refine ⟨he, fun o => ?_, fun o ha => ?_, fun o b hd hb => ?_, fun o p b hd hd' hb hb' => ?_, fun o b i hop hb hz => ?_, fun o b i ht hb hz => ?_, fun b i hz => ?_, fun b i hb hz => ?_, fun b i hz => .inl (R.z0 b i hz), R.zp⟩
  · by_cases hne : o = new
    · subst hne; rw [lkn]; exact hx
    · rw [lk o hne]
      exact ObR.mono L (.inr (hmo o hne)) (fun hd b hb => hold b (R.home o b hd hb).2) (R.ob o)
  · have hne : o ≠ new := fun e => ha (.inr e)
    rw [lk o hne]
    exact R.dead o fun h => ha (.inl h)
  · by_cases hne : o = new
    · subst hne; rw [hmn] at hb; cases hb; exact ⟨R.base_le, by omega⟩
    · rw [lk o hne] at hd; rw [hmo o hne] at hb
      have := R.home o b hd hb
      exact ⟨this.1, by omega⟩
  · by_cases h1 : o = new
    · by_cases h2 : p = new
      · rw [h1, h2]
      · subst h1; rw [hmn] at hb; cases hb
        rw [lk p h2] at hd'; rw [hmo p h2] at hb'
        exact absurd (R.home p _ hd' hb').2 (Nat.lt_irrefl _)
    · by_cases h2 : p = new
      · subst h2; rw [hmn] at hb'; cases hb'
        rw [lk o h1] at hd; rw [hmo o h1] at hb
        exact absurd (R.home o _ hd hb).2 (Nat.lt_irrefl _)
      · rw [lk o h1] at hd; rw [hmo o h1] at hb; rw [lk p h2] at hd'; rw [hmo p h2] at hb'
        exact R.dist o p b hd hd' hb hb'
  · by_cases h1 : o = new
    · subst h1; rw [hmn] at hb; cases hb; rw [lkn] at hop
      rcases hz with hz | ⟨_, hz⟩
      · exact absurd (R.zlt _ _ hz) (Nat.lt_irrefl _)
      · have := ho hop; omega
    · rw [lk o h1] at hop; rw [hmo o h1] at hb
      rcases hz with hz | ⟨e, _⟩
      · exact R.excl o b i hop hb hz
      · cases e
        exact absurd (R.home o _ (by intro hd; rw [hd] at hop; simp [Ob.open?] at hop) hb).2 (Nat.lt_irrefl _)
  · by_cases h1 : o = new
    · subst h1; rw [hmn] at hb; cases hb
      show i < upd g.lo o k o
      rw [upd_same]
      rcases hz with hz | ⟨_, hz⟩
      · exact absurd (R.zlt _ _ hz) (Nat.lt_irrefl _)
      · exact hz
    · rw [lk o h1] at ht; rw [hmo o h1] at hb
      show i < upd g.lo new k o
      rw [upd_other _ _ h1]
      rcases hz with hz | ⟨e, _⟩
      · exact R.excT o b i ht hb hz
      · cases e
        exact absurd (R.home o _ (by rw [ht]; simp) hb).2 (Nat.lt_irrefl _)
  · rcases hz with hz | ⟨e, _⟩
    · have := R.zlt b i hz; omega
    · cases e; omega
  · rcases hz with hz | ⟨e, _⟩
    · exact R.zold b i hb hz
    · cases e; exact absurd hb (Nat.not_lt.2 R.base_le)

/-- a token without a block -/
theorem HR.tokNil (R : HR w0 Z0 Zp h g w) {new : Nat} (hn : ¬ g.al new) : HR w0 Z0 Zp ((new, .tok) :: h) (newG g new none 0) w ∧ Le Zp h g w ((new, .tok) :: h) (newG g new none 0) w := by
  have lk : ∀ o, o ≠ new → look .dead o ((new, .tok) :: h) = look .dead o h := fun o hne => by rw [look_cons, if_neg (Ne.symm hne)]
  have lkn : look .dead new ((new, Ob.tok) :: h) = .tok := by rw [look_cons, if_pos rfl]
  have hmo : ∀ o, o ≠ new → (newG g new none 0).hm o = g.hm o := fun o hne => upd_other _ _ hne
  have hmn : (newG g new none 0).hm new = none := upd_same _ _ _
  have L : Le Zp h g w ((new, .tok) :: h) (newG g new none 0) w := by
    refine ⟨fun o ha => .inl ha, fun b i hz => ⟨.inl hz, rfl⟩, Keeps.refl _ _, fun o ha => ?_, fun o ha _ => ?_, fun o ha ht => ?_⟩
    · rw [lk o (fun e => hn (e ▸ ha))]; exact Ob.to.refl _
    · exact hmo o (fun e => hn (e ▸ ha))
    · exact ⟨upd_other _ _ (fun e => hn (e ▸ ha)), fun _ _ => rfl⟩
  refine ⟨⟨R.ext, fun o => ?_, fun o ha => ?_, fun o b hd hb => ?_, fun o p b hd hd' hb hb' => ?_, fun o b i hop hb hz => ?_, fun o b i ht hb hz => ?_, fun b i hz => ?_, fun b i hb hz => ?_, fun b i hz => .inl (R.z0 b i hz), R.zp⟩, L⟩
  · by_cases hne : o = new
    · subst hne; rw [lkn]; trivial
    · rw [lk o hne]; exact ObR.mono L (.inr (hmo o hne)) (fun _ _ _ => rfl) (R.ob o)
  · have hne : o ≠ new := fun e => ha (.inr e)
    rw [lk o hne]; exact R.dead o fun h => ha (.inl h)
  · by_cases hne : o = new
    · subst hne; rw [hmn] at hb; cases hb
    · rw [lk o hne] at hd; rw [hmo o hne] at hb; exact R.home o b hd hb
  · by_cases h1 : o = new
    · subst h1; rw [hmn] at hb; cases hb
    · by_cases h2 : p = new
      · subst h2; rw [hmn] at hb'; cases hb'
      · rw [lk o h1] at hd; rw [hmo o h1] at hb; rw [lk p h2] at hd'; rw [hmo p h2] at hb'
        exact R.dist o p b hd hd' hb hb'
  · by_cases h1 : o = new
    · subst h1; rw [hmn] at hb; cases hb
    · rw [lk o h1] at hop; rw [hmo o h1] at hb
      rcases hz with hz | ⟨e, _⟩
      · exact R.excl o b i hop hb hz
      · cases e
  · by_cases h1 : o = new
    · subst h1; rw [hmn] at hb; cases hb
    · rw [lk o h1] at ht; rw [hmo o h1] at hb
      show i < upd g.lo new 0 o
      rw [upd_other _ _ h1]
      rcases hz with hz | ⟨e, _⟩
      · exact R.excT o b i ht hb hz
      · cases e
  · rcases hz with hz | ⟨e, _⟩
    · exact R.zlt b i hz
    · cases e
  · rcases hz with hz | ⟨e, _⟩
    · exact R.zold b i hb hz
    · cases e

/-- a block that nobody holds any more gets a new token; what was read there is still there -/
theorem HR.regrow (R : HR w0 Z0 Zp h g w) {new b k : Nat} (hn : ¬ g.al new) (hfree : ∀ o, look .dead o h ≠ .dead → g.hm o ≠ some b) (hb1 : w0.heap.size ≤ b) (hb2 : b < w.heap.size)
    (hw : ∀ c, c ≠ b → w'.heap[c]? = w.heap[c]?) (hs : w'.heap.size = w.heap.size) (he : w0.Extends w') (hk : ∀ i, g.Z b i → i < k ∧ w'.cell? ⟨b, i, none⟩ = w.cell? ⟨b, i, none⟩) :
    HR w0 Z0 Zp ((new, .tok) :: h) (newG g new (some b) k) w' ∧ Le Zp h g w ((new, .tok) :: h) (newG g new (some b) k) w' := by
  have lk : ∀ o, o ≠ new → look .dead o ((new, Ob.tok) :: h) = look .dead o h := fun o hne => by rw [look_cons, if_neg (Ne.symm hne)]
  have lkn : look .dead new ((new, Ob.tok) :: h) = .tok := by rw [look_cons, if_pos rfl]
  have hmo : ∀ o, o ≠ new → (newG g new (some b) k).hm o = g.hm o := fun o hne => upd_other _ _ hne
  have hmn : (newG g new (some b) k).hm new = some b := upd_same _ _ _
  have hoth : ∀ o, look .dead o h ≠ .dead → ∀ c, g.hm o = some c → w'.heap[c]? = w.heap[c]? := fun o hd c hc => hw c (fun e => hfree o hd (e ▸ hc))
  have L : Le Zp h g w ((new, .tok) :: h) (newG g new (some b) k) w' := by
    refine ⟨fun o ha => .inl ha, fun c i hz => ⟨.inl hz, ?_⟩, R.zpk (fun c hc => hw c (by omega)) R.zp, fun o ha => ?_, fun o ha _ => ?_, fun o ha ht => ?_⟩
    · by_cases hc : c = b
      · subst hc; exact (hk i hz).2
      · exact World.cell?_of_block (hw c hc)
    · rw [lk o (fun e => hn (e ▸ ha))]; exact Ob.to.refl _
    · exact hmo o (fun e => hn (e ▸ ha))
    · rw [lk o (fun e => hn (e ▸ ha))] at ht
      exact ⟨upd_other _ _ (fun e => hn (e ▸ ha)), fun c hc => hoth o (by rw [ht]; simp) c hc⟩
  refine ⟨⟨he, fun o => ?_, fun o ha => ?_, fun o c hd hc => ?_, fun o p c hd hd' hc hc' => ?_, fun o c i hop hc hz => ?_, fun o c i ht hc hz => ?_, fun c i hz => ?_, fun c i hc hz => ?_, fun c i hz => .inl (R.z0 c i hz), R.zp⟩, L⟩
  · by_cases hne : o = new
    · subst hne; rw [lkn]; trivial
    · rw [lk o hne]; exact ObR.mono L (.inr (hmo o hne)) (fun hd c hc => hoth o hd c hc) (R.ob o)
  · have hne : o ≠ new := fun e => ha (.inr e)
    rw [lk o hne]; exact R.dead o fun h => ha (.inl h)
  · by_cases hne : o = new
    · subst hne; rw [hmn] at hc; cases hc; exact ⟨hb1, by omega⟩
    · rw [lk o hne] at hd; rw [hmo o hne] at hc
      have := R.home o c hd hc; omega
  · by_cases h1 : o = new
    · by_cases h2 : p = new
      · rw [h1, h2]
      · subst h1; rw [hmn] at hc; cases hc
        rw [lk p h2] at hd'; rw [hmo p h2] at hc'
        exact absurd hc' (hfree p hd')
    · by_cases h2 : p = new
      · subst h2; rw [hmn] at hc'; cases hc'
        rw [lk o h1] at hd; rw [hmo o h1] at hc
        exact absurd hc (hfree o hd)
      · rw [lk o h1] at hd; rw [hmo o h1] at hc; rw [lk p h2] at hd'; rw [hmo p h2] at hc'
        exact R.dist o p c hd hd' hc hc'
  · by_cases h1 : o = new
    · subst h1; rw [lkn] at hop; simp [Ob.open?] at hop
    · rw [lk o h1] at hop; rw [hmo o h1] at hc
      rcases hz with hz | ⟨e, _⟩
      · exact R.excl o c i hop hc hz
      · cases e; exact hfree o (by intro hd; rw [hd] at hop; simp [Ob.open?] at hop) hc
  · by_cases h1 : o = new
    · subst h1; rw [hmn] at hc; cases hc
      show i < upd g.lo o k o
      rw [upd_same]
      rcases hz with hz | ⟨_, hz⟩
      · exact (hk i hz).1
      · exact hz
    · rw [lk o h1] at ht; rw [hmo o h1] at hc
      show i < upd g.lo new k o
      rw [upd_other _ _ h1]
      rcases hz with hz | ⟨e, _⟩
      · exact R.excT o c i ht hc hz
      · cases e; exact absurd hc (hfree o (by rw [ht]; simp))
  · rcases hz with hz | ⟨e, _⟩
    · have := R.zlt c i hz; omega
    · cases e; omega
  · rcases hz with hz | ⟨e, _⟩
    · exact R.zold c i hc hz
    · cases e; omega

/-- an object is let go -/
theorem HR.drop (R : HR w0 Z0 Zp h g w) (o : Nat) : HR w0 Z0 Zp ((o, .dead) :: h) g w ∧ Le Zp h g w ((o, .dead) :: h) g w := by
  have lk : ∀ p, p ≠ o → look .dead p ((o, Ob.dead) :: h) = look .dead p h := fun p hne => by rw [look_cons, if_neg (Ne.symm hne)]
  have lko : look .dead o ((o, Ob.dead) :: h) = .dead := by rw [look_cons, if_pos rfl]
  have key : ∀ p, look .dead p ((o, Ob.dead) :: h) ≠ .dead → p ≠ o := fun p hp e => hp (by rw [e, lko])
  have L : Le Zp h g w ((o, .dead) :: h) g w := by
    refine ⟨fun o ha => ha, Keeps.refl _ _, Keeps.refl _ _, fun p _ => ?_, fun _ _ _ => rfl, fun _ _ _ => ⟨rfl, fun _ _ => rfl⟩⟩
    by_cases hp : p = o
    · subst hp; rw [lko]; exact .inl rfl
    · rw [lk p hp]; exact Ob.to.refl _
  refine ⟨⟨R.ext, fun p => ?_, fun p ha => ?_, fun p b hd hb => ?_, fun p q b hd hd' hb hb' => ?_, fun p b i hop hb hz => ?_, fun p b i ht hb hz => ?_, R.zlt, R.zold, R.z0, R.zp⟩, L⟩
  · by_cases hp : p = o
    · subst hp; rw [lko]; trivial
    · rw [lk p hp]; exact ObR.mono L (.inr rfl) (fun _ _ _ => rfl) (R.ob p)
  · by_cases hp : p = o
    · subst hp; exact lko
    · rw [lk p hp]; exact R.dead p ha
  · exact R.home p b (by rw [← lk p (key p hd)]; exact hd) hb
  · exact R.dist p q b (by rw [← lk p (key p hd)]; exact hd) (by rw [← lk q (key q hd')]; exact hd') hb hb'
  · have hp := key p (by intro e; rw [e] at hop; simp [Ob.open?] at hop)
    rw [lk p hp] at hop; exact R.excl p b i hop hb hz
  · have hp := key p (by rw [ht]; simp)
    rw [lk p hp] at ht; exact R.excT p b i ht hb hz

/-- an own block is written -/
theorem HR.write (R : HR w0 Z0 Zp h g w) {o b : Nat} {x : Ob} (hb : g.hm o = some b) (hop : (look .dead o h).open? = true) (hto : (look .dead o h).to x) (hox : x.open? = true)
    (hw : ∀ c, c ≠ b → w'.heap[c]? = w.heap[c]?) (hs : w'.heap.size = w.heap.size) (he : w0.Extends w')
    (hx : Le Zp h g w ((o, x) :: h) g w' → ObR w' w0.heap.size Zp ((o, x) :: h) g o x) :
    HR w0 Z0 Zp ((o, x) :: h) g w' ∧ Le Zp h g w ((o, x) :: h) g w' := by
  have lk : ∀ p, p ≠ o → look .dead p ((o, x) :: h) = look .dead p h := fun p hne => by rw [look_cons, if_neg (Ne.symm hne)]
  have lko : look .dead o ((o, x) :: h) = x := by rw [look_cons, if_pos rfl]
  have hal : look .dead o h ≠ .dead := by intro hd; rw [hd] at hop; simp [Ob.open?] at hop
  have hxd : x ≠ .dead := by intro hd; rw [hd] at hox; simp [Ob.open?] at hox
  have hxt : x ≠ .tok := by intro hd; rw [hd] at hox; simp [Ob.open?] at hox
  have hbb := R.home o b hal hb
  have alive : ∀ p, look .dead p ((o, x) :: h) ≠ .dead → look .dead p h ≠ .dead := fun p hp => by
    by_cases e : p = o
    · subst e; exact hal
    · rw [← lk p e]; exact hp
  have L : Le Zp h g w ((o, x) :: h) g w' := by
    refine ⟨fun o ha => ha, fun c i hz => ⟨hz, World.cell?_of_block (hw c (fun e => R.excl o b i hop hb (e ▸ hz)))⟩, R.zpk (fun c hc => hw c (by omega)) R.zp, fun p _ => ?_, fun _ _ _ => rfl, fun p _ ht => ⟨rfl, fun c hc => ?_⟩⟩
    · by_cases hp : p = o
      · subst hp; rw [lko]; exact hto
      · rw [lk p hp]; exact Ob.to.refl _
    · by_cases hp : p = o
      · subst hp; rw [lko] at ht; exact absurd ht hxt
      · rw [lk p hp] at ht
        exact hw c (fun e => hp (R.dist p o b (by rw [ht]; simp) hal (e ▸ hc) hb))
  refine ⟨⟨he, fun p => ?_, fun p ha => ?_, fun p c hd hc => ?_, fun p q c hd hd' hc hc' => ?_, fun p c i hp hc hz => ?_, fun p c i ht hc hz => ?_, fun c i hz => ?_, R.zold, R.z0, R.zp⟩, L⟩
  · by_cases hp : p = o
    · subst hp; rw [lko]; exact hx L
    · rw [lk p hp]; exact ObR.mono L (.inr rfl) (fun hd c hc => hw c (fun e => hp (R.dist p o b hd hal (e ▸ hc) hb))) (R.ob p)
  · have hp : p ≠ o := fun e => ha (e ▸ R.alive hal)
    rw [lk p hp]; exact R.dead p ha
  · have := R.home p c (alive p hd) hc; omega
  · exact R.dist p q c (alive p hd) (alive q hd') hc hc'
  · by_cases e : p = o
    · subst e; rw [hb] at hc; cases hc; exact R.excl p b i hop hb hz
    · rw [lk p e] at hp; exact R.excl p c i hp hc hz
  · by_cases e : p = o
    · subst e; rw [lko] at ht; exact absurd ht hxt
    · rw [lk p e] at ht; exact R.excT p c i ht hc hz
  · have := R.zlt c i hz; omega

/-- an own row becomes data -/
theorem HR.freeze (R : HR w0 Z0 Zp h g w) {o : Nat} {e : Ty} {l : List e.den} (ho : look .dead o h = .row e l) :
    ∃ g', HR w0 Z0 Zp ((o, .frow e l) :: h) g' w ∧ Le Zp h g w ((o, .frow e l) :: h) g' w ∧ g'.al = g.al := by
  have hob := R.ob o
  rw [ho] at hob
  obtain ⟨h0, h00, b, cur, e0, hb, hcur, hpr⟩ := hob
  have hal : look .dead o h ≠ .dead := by rw [ho]; simp
  have hbb := R.home o b hal hb
  have lk : ∀ p, p ≠ o → look .dead p ((o, Ob.frow e l) :: h) = look .dead p h := fun p hne => by rw [look_cons, if_neg (Ne.symm hne)]
  have lko : look .dead o ((o, Ob.frow e l) :: h) = .frow e l := by rw [look_cons, if_pos rfl]
  have alive : ∀ p, look .dead p ((o, Ob.frow e l) :: h) ≠ .dead → look .dead p h ≠ .dead := fun p hp => by
    by_cases e : p = o
    · subst e; exact hal
    · rw [← lk p e]; exact hp
  let g' : G := { g with Z := fun c i => g.Z c i ∨ (c = b ∧ i < cur.size) }
  have L : Le Zp h g w ((o, .frow e l) :: h) g' w := by
    refine ⟨fun o ha => ha, fun c i hz => ⟨.inl hz, rfl⟩, Keeps.refl _ _, fun p _ => ?_, fun _ _ _ => rfl, fun _ _ _ => ⟨rfl, fun _ _ => rfl⟩⟩
    by_cases hp : p = o
    · subst hp; rw [lko, ho]; exact .inr (.inr (.inr ⟨_, rfl, rfl⟩))
    · rw [lk p hp]; exact Ob.to.refl _
  refine ⟨g', ⟨R.ext, fun p => ?_, fun p ha => ?_, fun p c hd hc => R.home p c (alive p hd) hc, fun p q c hd hd' hc hc' => R.dist p q c (alive p hd) (alive q hd') hc hc', fun p c i hp hc hz => ?_, fun p c i ht hc hz => ?_, fun c i hz => ?_, fun c i hc hz => ?_, fun c i hz => .inl (R.z0 c i hz), R.zp⟩, L, rfl⟩
  · by_cases hp : p = o
    · subst hp; rw [lko]
      exact ⟨h0, h00, b, cur, e0, (0, 0), hb, hcur, PRL.mono (fun x es hx => PR.mono L.z L.zp _ _ _ hx) _ _ hpr, fun i hi => .inr ⟨rfl, hi⟩⟩
    · rw [lk p hp]; exact ObR.mono L (.inr rfl) (fun _ _ _ => rfl) (R.ob p)
  · have hp : p ≠ o := fun e => ha (e ▸ R.alive hal)
    rw [lk p hp]; exact R.dead p ha
  · by_cases ep : p = o
    · subst ep; rw [lko] at hp; simp [Ob.open?] at hp
    · rw [lk p ep] at hp
      rcases hz with hz | ⟨hcb, _⟩
      · exact R.excl p c i hp hc hz
      · exact ep (R.dist p o b (by intro hd; rw [hd] at hp; simp [Ob.open?] at hp) hal (hcb ▸ hc) hb)
  · by_cases ep : p = o
    · subst ep; rw [lko] at ht; cases ht
    · rw [lk p ep] at ht
      rcases hz with hz | ⟨hcb, _⟩
      · exact R.excT p c i ht hc hz
      · exact absurd (R.dist p o b (by rw [ht]; simp) hal (hcb ▸ hc) hb) ep
  · rcases hz with hz | ⟨hcb, _⟩
    · exact R.zlt c i hz
    · rw [hcb]; exact hbb.2
  · rcases hz with hz | ⟨hcb, _⟩
    · exact R.zold c i hc hz
    · rw [hcb] at hc; omega

/-- behind a call: new blocks are data -/
theorem HR.called (R : HR w0 Z0 Zp h g w) (he : w.Extends w') :
    let g' : G := { g with Z := fun b i => g.Z b i ∨ (w.heap.size ≤ b ∧ b < w'.heap.size) }
    HR w0 Z0 Zp h g' w' ∧ Le Zp h g w h g' w' := by
  intro g'
  have L : Le Zp h g w h g' w' := by
    refine ⟨fun o ha => ha, fun c i hz => ⟨.inl hz, he.cell _ (R.zlt c i hz)⟩, R.zpk (fun c hc => he.block c (Nat.lt_of_lt_of_le hc R.base_le)) R.zp, fun p _ => Ob.to.refl _, fun _ _ _ => rfl, fun p _ ht => ⟨rfl, fun c hc => he.block c (R.home p c (by rw [ht]; simp) hc).2⟩⟩
  have hsz := he.size
  refine ⟨⟨R.ext.trans he, fun p => ObR.mono L (.inr rfl) (fun hd c hc => he.block c (R.home p c hd hc).2) (R.ob p), R.dead, fun p c hd hc => ?_, R.dist, fun p c i hp hc hz => ?_, fun p c i ht hc hz => ?_, fun c i hz => ?_, fun c i hc hz => ?_, fun c i hz => .inl (R.z0 c i hz), R.zp⟩, L⟩
  · have := R.home p c hd hc; exact ⟨this.1, by omega⟩
  · rcases hz with hz | ⟨h1, _⟩
    · exact R.excl p c i hp hc hz
    · have := R.home p c (by intro hd; rw [hd] at hp; simp [Ob.open?] at hp) hc; omega
  · rcases hz with hz | ⟨h1, _⟩
    · exact R.excT p c i ht hc hz
    · have := R.home p c (by rw [ht]; simp) hc; omega
  · rcases hz with hz | ⟨_, h2⟩
    · have := R.zlt c i hz; omega
    · exact h2
  · rcases hz with hz | ⟨h1, _⟩
    · exact R.zold c i hc hz
    · have := R.base_le; omega

end
end Go.Am

/- The abstract machine: operations that leave the heap as it is. -/
namespace Go.Am
open Go

/-! ### the small programs, straight -/

def HM.eval (next : Nat) : HM → Heap → Log → Option (A × Heap × Log)
  | .ret a, h, L => some (a, h, L)
  | .fail, _, _ => none
  | .get o k, h, L => (k (look .dead o h)).eval next h ((o, false) :: L)
  | .set o x k, h, L => match Nat.blt o next with
    | true => k.eval next ((o, x) :: h) ((o, true) :: L)
    | false => none
  | .opt x k, h, L => x.bind fun b => (k b).eval next h L
  | .br b x y, h, L => match b with
    | true => x.eval next h L
    | false => y.eval next h L

theorem HM.run_eq {R : Type} (next : Nat) (K : A → Heap → Log → Option R) : ∀ (m : HM) (h : Heap) (L : Log), m.run next h L K = (m.eval next h L).bind fun r => K r.1 r.2.1 r.2.2
  | .ret a, h, L => rfl
  | .fail, _, _ => rfl
  | .get o k, h, L => by simp only [HM.run, HM.eval]; exact HM.run_eq next K _ _ _
  | .set o x k, h, L => by
    simp only [HM.run, HM.eval]
    cases Nat.blt o next with
    | true => exact HM.run_eq next K _ _ _
    | false => rfl
  | .opt x k, h, L => by
    simp only [HM.run, HM.eval]
    cases x with
    | none => rfl
    | some b => exact HM.run_eq next K _ _ _
  | .br b x y, h, L => by
    simp only [HM.run, HM.eval]
    cases b with
    | true => exact HM.run_eq next K _ _ _
    | false => exact HM.run_eq next K _ _ _

section
variable {next : Nat} {h : Heap} {L : Log} {res : A × Heap × Log}
theorem eval_ret {a : A} (e : (HM.ret a).eval next h L = some res) : res = (a, h, L) := by simp [HM.eval] at e; exact e.symm
theorem eval_fail (e : (HM.fail).eval next h L = some res) : False := by simp [HM.eval] at e
theorem eval_get {o : Nat} {k : Ob → HM} (e : (HM.get o k).eval next h L = some res) : (k (look .dead o h)).eval next h ((o, false) :: L) = some res := e
theorem eval_set {o : Nat} {x : Ob} {k : HM} (e : (HM.set o x k).eval next h L = some res) : k.eval next ((o, x) :: h) ((o, true) :: L) = some res := by
  simp only [HM.eval] at e; split at e
  · exact e
  · cases e
theorem eval_opt {β : Type} {x : Option β} {k : β → HM} (e : (HM.opt x k).eval next h L = some res) : ∃ b, x = some b ∧ (k b).eval next h L = some res := by
  cases x with
  | none => simp [HM.eval] at e
  | some b => exact ⟨b, rfl, e⟩
end

/-! ### types -/

def Ty.zvals : Ty → List Value
  | .bool => [.bool false]
  | .int k => [.int k 0]
  | .str => [.string ⟨#[]⟩]
  | .sl _ => [.slice none 0 0]
  | .pair a b => a.zvals ++ b.zvals
  | .unit => []
  | .ref _ => [.pointer none]
  | .fn _ => [.nilFunc]

def Ty.noFn : Ty → Bool
  | .fn _ => false
  | .pair a b => a.noFn && b.noFn
  | _ => true

def aggV : Value → Bool
  | .agg _ => true
  | _ => false

def tyOK (d : TD) : Bool :=
  match d.ty with
  | some τ => Nat.beq τ.size d.size && (τ.isAgg == d.agg) && τ.noRef && τ.noFn
  | none => true

/-- a struct's fields, all plain, each a cell -/
def flatFs (P : Program) : Nat → List Field → List Ty → Bool
  | _, [], [] => true
  | i, f :: fs, τ :: τs => (f.name != "_") && Nat.beq f.offset i && (match P.underlying f.type, τ with
      | some (.int k), .int q => decide (k = q)
      | some .bool, .bool => true
      | some .string, .str => true
      | _, _ => false) && flatFs P (i + 1) fs τs
  | _, _, _ => false

def flatB (P : Program) (t : TypeId) (τs : List Ty) : Bool :=
  match P.underlying t with
  | some (.struct fs) => !P.stoodInHeld t && !P.eqGuardType P.depth t && flatFs P 0 fs.toList τs
  | _ => false

structure TOK (P : Program) (t : TypeId) (d : TD) : Prop where
  und : (P.underlying t).map descK = some d.desc
  agg : aggK d.desc = d.agg
  info : (P.info? t).map (fun i => (i.size, i.bytes)) = some (d.size, d.bytes)
  ty : tyOK d = true
  eq : d.eq = [] ∨ flatB P t d.eq = true
  zero : match d.zero, d.ty with
    | true, some τ => (P.info? t).map (fun i => i.zero.map fun z => (z.cells.toList, aggV z)) = some (some (τ.zvals, d.agg))
    | true, none => False
    | false, _ => True

def XOK (P : Program) (tt : List (TypeId × TD)) : Prop := ∀ p ∈ tt, TOK P p.1 p.2

theorem lookO_mem {α : Type} {t : Nat} {x : α} : ∀ {l : List (Nat × α)}, lookO t l = some x → (t, x) ∈ l
  | [], h => by simp [lookO] at h
  | (u, y) :: r, h => by
    simp only [lookO] at h
    split at h
    · rename_i he; cases h; rw [Nat.eq_of_beq_eq_true he]; simp
    · exact List.mem_cons_of_mem _ (lookO_mem h)

theorem XOK.get {P : Program} {tt : List (TypeId × TD)} (H : XOK P tt) {t : TypeId} {d : TD} (h : lookO t tt = some d) : TOK P t d := H _ (lookO_mem h)

section
variable {P : Program} {t : TypeId} {d : TD} (T : TOK P t d)

theorem TOK.under (T : TOK P t d) : ∃ y, P.underlying t = some y ∧ descK y = d.desc := by
  have := T.und
  cases hy : P.underlying t with
  | none => simp [hy] at this
  | some y => exact ⟨y, rfl, by simpa [hy] using this⟩

theorem TOK.slice (T : TOK P t d) {e : TypeId} (hd : d.desc = .slice e) : P.underlying t = some (.slice e) := by
  obtain ⟨y, h1, h2⟩ := T.under
  rw [hd] at h2
  cases y <;> simp [descK] at h2
  rw [h1, h2]

theorem TOK.int (T : TOK P t d) {k : IntKind} (hd : d.desc = .int k) : P.underlying t = some (.int k) := by
  obtain ⟨y, h1, h2⟩ := T.under
  rw [hd] at h2
  cases y <;> simp [descK] at h2
  rw [h1, h2]

theorem TOK.string (T : TOK P t d) (hd : d.desc = .str) : P.underlying t = some .string := by
  obtain ⟨y, h1, h2⟩ := T.under
  rw [hd] at h2
  cases y <;> simp [descK] at h2
  exact h1

theorem TOK.array (T : TOK P t d) {n : Nat} {e : TypeId} (hd : d.desc = .array n e) : P.underlying t = some (.array n e) := by
  obtain ⟨y, h1, h2⟩ := T.under
  rw [hd] at h2
  cases y <;> simp [descK] at h2
  rw [h1, h2.1, h2.2]

theorem TOK.struct (T : TOK P t d) {fs : List (TypeId × Nat)} (hd : d.desc = .struct fs) : ∃ f : Array Field, P.underlying t = some (.struct f) ∧ f.toList.map (fun x => (x.type, x.offset)) = fs := by
  obtain ⟨y, h1, h2⟩ := T.under
  rw [hd] at h2
  cases y <;> simp [descK] at h2
  exact ⟨_, h1, h2⟩

theorem TOK.inf (T : TOK P t d) : ∃ i, P.info? t = some i ∧ i.size = d.size ∧ i.bytes = d.bytes := by
  have := T.info
  cases hy : P.info? t with
  | none => simp [hy] at this
  | some i => exact ⟨i, rfl, by simpa [hy] using this⟩

theorem TOK.sizeOf (T : TOK P t d) (w : World) : (sizeOf t).run P w = .ok d.size w := by
  obtain ⟨i, h1, h2, _⟩ := T.inf
  simp [Go.sizeOf, typeInfo, h1, h2]

theorem TOK.isAgg (T : TOK P t d) (w : World) : (isAgg t).run P w = .ok d.agg w := by
  obtain ⟨y, h1, h2⟩ := T.under
  have ha := T.agg
  rw [← h2] at ha
  simp only [Go.isAgg, Sem.run_bind, run_underlying h1, Result.andThen_ok]
  cases y <;> simp [descK, aggK] at ha <;> simp [← ha]

theorem TOK.tyEq (T : TOK P t d) {τ : Ty} (h : d.ty = some τ) : τ.size = d.size ∧ τ.isAgg = d.agg ∧ τ.noRef = true ∧ τ.noFn = true := by
  have := T.ty
  simp only [tyOK, h, Bool.and_eq_true] at this
  exact ⟨Nat.eq_of_beq_eq_true this.1.1.1, by simpa using this.1.1.2, this.1.2, this.2⟩

theorem TOK.zeroV (T : TOK P t d) {τ : Ty} (hz : d.zero = true) (h : d.ty = some τ) : ∃ i z, P.info? t = some i ∧ i.size = d.size ∧ i.bytes = d.bytes ∧ i.zero = some z ∧ z.cells.toList = τ.zvals ∧ aggV z = d.agg := by
  have h1 := T.zero
  rw [hz, h] at h1
  obtain ⟨i, h2, h3, h4⟩ := T.inf
  simp only [h2, Option.map_some, Option.some.injEq] at h1
  cases hz2 : i.zero with
  | none => simp [hz2] at h1
  | some z => simp [hz2] at h1; exact ⟨i, z, h2, h3, h4, hz2, h1.1, h1.2⟩
end

/-! ### one operation -/

section
variable {P : Program} {w0 w : World} {Z0 Zp : Zone} {h h' : Heap} {g : G} {new : Nat} {r : A}

/-- what an operation does, beside what the machine does -/
def OpSim (P : Program) (w0 : World) (Z0 Zp : Zone) (h : Heap) (g : G) (w : World) (new : Nat) (res : Sem Next) (r : A) (h' : Heap) : Prop :=
  ∃ n v w' g', res.run P w = .ok n w' ∧ (n = .value v ∨ (n = .skip ∧ v = undef)) ∧ HR w0 Z0 Zp h' g' w' ∧ Le Zp h g w h' g' w' ∧ AR w' w0.heap.size Zp h' g' r v ∧ ∀ o, g'.al o → g.al o ∨ o = new

theorem OpSim.pure (R : HR w0 Z0 Zp h g w) {res : Sem Next} {v : Value} (hr : res.run P w = .ok (.value v) w) (ha : AR w w0.heap.size Zp h g r v) : OpSim P w0 Z0 Zp h g w new res r h :=
  ⟨_, v, w, g, hr, .inl rfl, R, Le.refl _ _ _ _, ha, fun _ h => .inl h⟩

theorem Le.trans {w1 w2 : World} {h1 h2 : Heap} {g1 g2 : G} (a : Le Zp h g w h1 g1 w1) (b : Le Zp h1 g1 w1 h2 g2 w2) : Le Zp h g w h2 g2 w2 := by
  refine ⟨fun o ho => b.al o (a.al o ho), a.z.trans b.z, a.zp.trans b.zp, fun o ho => ?_, fun o ho hd => ?_, fun o ho ht => ?_⟩
  · have h1 := a.ob o ho
    have h2 := b.ob o (a.al o ho)
    rcases h2 with h2 | ⟨e1, e2⟩ | ⟨c, c', e1, e2⟩ | ⟨q, e1, e2⟩
    · exact .inl h2
    · exact .inr (.inl ⟨h1.tok e1, e2⟩)
    · rcases h1 with h1 | ⟨_, h1⟩ | ⟨d, d', f1, f2⟩ | ⟨q, _, h1⟩
      · rw [h1] at e1; cases e1
      · rw [h1] at e1; cases e1
      · exact .inr (.inr (.inl ⟨d, c', f1, e2⟩))
      · rw [e1] at h1; simp [rowLen] at h1
    · exact .inr (.inr (.inr ⟨q, h1.row e1, e2⟩))
  · exact (b.hm o (a.al o ho) hd).trans (a.hm o ho ((b.ob o (a.al o ho)).alive hd))
  · have ht1 := (b.ob o (a.al o ho)).tok ht
    have e1 := b.tok o (a.al o ho) ht
    have e2 := a.tok o ho ht1
    exact ⟨e1.1.trans e2.1, fun c hc => (e1.2 c ((a.hm o ho (by rw [ht1]; simp)).trans hc)).trans (e2.2 c hc)⟩

/-- an operation behind a change of the ghosts alone -/
theorem OpSim.behind {h1 : Heap} {g1 : G} {res : Sem Next} (hl : Le Zp h g w h1 g1 w) (hal : ∀ o, g1.al o → g.al o) (H : OpSim P w0 Z0 Zp h1 g1 w new res r h') : OpSim P w0 Z0 Zp h g w new res r h' := by
  obtain ⟨n, v, w', g', a, b, c, d, e, f⟩ := H
  exact ⟨n, v, w', g', a, b, c, hl.trans d, e, fun o ho => (f o ho).imp (hal o) id⟩

theorem AR.c {base : Nat} {c : C} {v : Value} (hh : AR w base Zp h g (.v false [c]) v) : CR w base Zp h g c v := by
  obtain ⟨u, rest, e, h1, _⟩ := hh
  cases e; exact h1

theorem AR.ofC {base : Nat} {c : C} {v : Value} (hh : CR w base Zp h g c v) : AR w base Zp h g (.v false [c]) v := ⟨v, [], rfl, hh, rfl⟩

theorem AR.agg {base : Nat} {cs : List C} {v : Value} (hh : AR w base Zp h g (.v true cs) v) : ∃ vs : List Value, v = .agg vs.toArray ∧ CRs w base Zp h g cs vs := hh

theorem ofVal_AR {base : Nat} (v : Value) : AR w base Zp h g (ofVal v) v := by
  unfold ofVal
  split <;> first
    | exact AR.ofC trivial
    | (refine AR.ofC ?_; simp [CR])

/-- operands -/
theorem rho_AR {base : Nat} {env : Env} {a : Act} (he : ∀ t, AR w base Zp h g (look undefA t env) (a.tmps.getD t undef)) (x : Operand) : AR w base Zp h g (rho env x) (a.eval x) := by
  cases x with
  | tmp t => exact he t
  | const v => exact ofVal_AR v
  | global _ => exact AR.ofC trivial
  | func f => exact AR.ofC ⟨#[], rfl, by simp [PRL]⟩

end
end Go.Am

/- The abstract machine: operations on values. -/
namespace Go.Am
open Go

section
variable {P : Program} {w0 w : World} {Z0 Zp : Zone} {h h' : Heap} {g : G} {new next base : Nat} {r : A} {L L' : Log} {X : Cx}

theorem eval_retC {c : C} (e : (retC c).eval next h L = some (r, h', L')) : r = .v false [c] ∧ h' = h ∧ L' = L := by
  simp [retC, HM.eval] at e; exact ⟨e.1.symm, e.2.1.symm, e.2.2.symm⟩
theorem eval_retI {k : IntKind} {n : Int} (e : (retI k n).eval next h L = some (r, h', L')) : r = .v false [.int k n] ∧ h' = h ∧ L' = L := eval_retC e
theorem eval_retB {b : Bool} (e : (retB b).eval next h L = some (r, h', L')) : r = .v false [.bool b] ∧ h' = h ∧ L' = L := eval_retC e

theorem qt_some {k : IntKind} {a b n : Int} (h : qt k a b = some n) : b ≠ 0 ∧ n = k.wrap (a.tdiv b) := by
  unfold qt at h; split at h
  · cases h
  · rename_i hb; cases h; exact ⟨hb, rfl⟩
theorem rm_some {a b n : Int} (h : rm a b = some n) : b ≠ 0 ∧ n = a.tmod b := by
  unfold rm at h; split at h
  · cases h
  · rename_i hb; cases h; exact ⟨hb, rfl⟩
theorem shlo_some {k : IntKind} {a b n : Int} (h : shlo k a b = some n) : ¬ b < 0 ∧ n = k.wrap (a * 2 ^ (min b.toNat k.bits)) := by
  unfold shlo at h; split at h
  · cases h
  · rename_i hb; cases h; exact ⟨hb, rfl⟩
theorem shro_some {k : IntKind} {a b n : Int} (h : shro k a b = some n) : ¬ b < 0 ∧ n = a.fdiv (2 ^ (min b.toNat k.bits)) := by
  unfold shro at h; split at h
  · cases h
  · rename_i hb; cases h; exact ⟨hb, rfl⟩

theorem binA_int {op : BinOp} {t : TypeId} {x y : Operand} {k k' : IntKind} {a b : Int} (e : (binA op (.v false [.int k a]) (.v false [.int k' b])).eval next h L = some (r, h', L')) :
    h' = h ∧ ∃ c v, r = .v false [c] ∧ (do eqGuard op t x y (.int k a) (.int k' b); binOp op t (.int k a) (.int k' b) : Sem Value).run P w = .ok v w ∧ CR w base Zp h g c v := by
  have eg : (eqGuard op t x y (.int k a) (.int k' b)).run P w = .ok () w := by
    cases op <;> simp [eqGuard]
  simp only [Sem.run_bind, eg, Result.andThen_ok]
  cases op
  case shl =>
    obtain ⟨n, hn, e⟩ := eval_opt e
    obtain ⟨h1, h2⟩ := shlo_some hn
    obtain ⟨rfl, rfl, _⟩ := eval_retI e
    exact ⟨rfl, _, .int k n, rfl, by simp [binOp, Op.shift, h1, h2], rfl⟩
  case shr =>
    obtain ⟨n, hn, e⟩ := eval_opt e
    obtain ⟨h1, h2⟩ := shro_some hn
    obtain ⟨rfl, rfl, _⟩ := eval_retI e
    exact ⟨rfl, _, .int k n, rfl, by simp [binOp, Op.shift, h1, h2], rfl⟩
  case quo =>
    simp only [binA] at e
    split at e
    · exact (eval_fail e).elim
    rename_i hk _
    subst hk
    obtain ⟨n, hn, e⟩ := eval_opt e
    obtain ⟨h1, h2⟩ := qt_some hn
    obtain ⟨rfl, rfl, _⟩ := eval_retI e
    exact ⟨rfl, _, .int k n, rfl, by simp [binOp, Op.intDiv, h1, h2], rfl⟩
  case rem =>
    simp only [binA] at e
    split at e
    · exact (eval_fail e).elim
    rename_i hk _
    subst hk
    obtain ⟨n, hn, e⟩ := eval_opt e
    obtain ⟨h1, h2⟩ := rm_some hn
    obtain ⟨rfl, rfl, _⟩ := eval_retI e
    exact ⟨rfl, _, .int k n, rfl, by simp [binOp, Op.intDiv, h1, h2], rfl⟩
  all_goals
    simp only [binA] at e
    split at e
    · exact (eval_fail e).elim
    rename_i hk _
    subst hk
    first
      | (obtain ⟨rfl, rfl, _⟩ := eval_retI e
         refine ⟨rfl, _, _, rfl, ?_, rfl⟩
         simp [binOp, Op.intArith, Op.intBits, bito]; done)
      | (obtain ⟨rfl, rfl, _⟩ := eval_retB e
         refine ⟨rfl, _, _, rfl, ?_, rfl⟩
         simp [binOp, Op.intCmp]; done)

theorem str_list (a : List UInt8) : (⟨a.toArray⟩ : ByteArray).toList = a := by rw [ByteArray.toList_eq]
theorem str_size (a : List UInt8) : (⟨a.toArray⟩ : ByteArray).size = a.length := by simp [ByteArray.size]
theorem str_append (a b : List UInt8) : (⟨a.toArray⟩ : ByteArray) ++ ⟨b.toArray⟩ = ⟨(a ++ b).toArray⟩ := by
  apply ByteArray.ext
  simp

theorem cat_some {a b c : List UInt8} (h : cat a b = some c) : a.length + b.length ≤ 2 ^ 62 ∧ c = a ++ b := by
  unfold cat at h; split at h
  · rename_i hb; cases h; exact ⟨hb, rfl⟩
  · cases h

theorem binA_str {op : BinOp} {t : TypeId} {x y : Operand} {a b : List UInt8} (e : (binA op (.v false [.str a]) (.v false [.str b])).eval next h L = some (r, h', L')) :
    h' = h ∧ ∃ c v, r = .v false [c] ∧ (do eqGuard op t x y (.string ⟨a.toArray⟩) (.string ⟨b.toArray⟩); binOp op t (.string ⟨a.toArray⟩) (.string ⟨b.toArray⟩) : Sem Value).run P w = .ok v w ∧ CR w base Zp h g c v := by
  have eg : (eqGuard op t x y (.string ⟨a.toArray⟩) (.string ⟨b.toArray⟩)).run P w = .ok () w := by
    cases op <;> simp [eqGuard]
  simp only [Sem.run_bind, eg, Result.andThen_ok]
  cases op <;> simp only [binA] at e <;> first
    | exact (eval_fail e).elim
    | (obtain ⟨rfl, rfl, _⟩ := eval_retB e
       refine ⟨rfl, _, _, rfl, ?_, rfl⟩
       simp [binOp, Op.stringOp, bytesLt]; done)
    | (obtain ⟨s, hs, e⟩ := eval_opt e
       obtain ⟨h1, h2⟩ := cat_some hs
       subst h2
       obtain ⟨rfl, rfl, _⟩ := eval_retC e
       refine ⟨rfl, _, _, rfl, ?_, rfl⟩
       have h3 := run_string_add_sum (P := P) (w := w) ⟨a.toArray⟩ ⟨b.toArray⟩ (by rw [str_size, str_size]; omega)
       rw [str_append] at h3
       simpa [binOp] using h3)

theorem run_equalIn_bool {t : TypeId} (hu : P.underlying t = some .bool) (a b : Bool) (d : Nat) : (Op.equalIn (d + 1) t (.bool a) (.bool b)).run P w = .ok (a == b) w := by
  unfold Op.equalIn
  simp only [Sem.run_bind, run_underlying hu, Result.andThen_ok, Sem.run_pure]
theorem run_equal_bool {t : TypeId} (hu : P.underlying t = some .bool) (a b : Bool) : (Op.equal t (.bool a) (.bool b)).run P w = .ok (a == b) w := run_equalIn_bool hu a b 9999

theorem binA_bool {op : BinOp} {t : TypeId} {x y : Operand} {a b : Bool} (hu : P.underlying t = some .bool) (e : (binA op (.v false [.bool a]) (.v false [.bool b])).eval next h L = some (r, h', L')) :
    h' = h ∧ ∃ c v, r = .v false [c] ∧ (do eqGuard op t x y (.bool a) (.bool b); binOp op t (.bool a) (.bool b) : Sem Value).run P w = .ok v w ∧ CR w base Zp h g c v := by
  have eg : (eqGuard op t x y (.bool a) (.bool b)).run P w = .ok () w := by
    cases op <;> simp [eqGuard]
  simp only [Sem.run_bind, eg, Result.andThen_ok]
  cases op <;> simp only [binA] at e <;> first
    | exact (eval_fail e).elim
    | (obtain ⟨rfl, rfl, _⟩ := eval_retB e
       refine ⟨rfl, _, _, rfl, ?_, rfl⟩
       first
         | (show ((do pure (.bool (← Op.equal t (.bool a) (.bool b))) : Sem Value)).run P w = _
            simp only [Sem.run_bind, run_equal_bool hu, Result.andThen_ok, Sem.run_pure]; done)
         | (show ((do pure (.bool (!(← Op.equal t (.bool a) (.bool b)))) : Sem Value)).run P w = _
            simp only [Sem.run_bind, run_equal_bool hu, Result.andThen_ok, Sem.run_pure]; done))

theorem binA_sim {op : BinOp} {t : TypeId} {x y : Operand} {X Y : A} {vx vy : Value} (hu : ∀ a b, X = .v false [.bool a] → Y = .v false [.bool b] → P.underlying t = some .bool) (hx : AR w base Zp h g X vx) (hy : AR w base Zp h g Y vy)
    (e : (binA op X Y).eval next h L = some (r, h', L')) :
    h' = h ∧ ∃ c v, r = .v false [c] ∧ (do eqGuard op t x y vx vy; binOp op t vx vy : Sem Value).run P w = .ok v w ∧ CR w base Zp h g c v := by
  unfold binA at e
  split at e
  · have h1 := hx.c; have h2 := hy.c
    simp only [CR] at h1 h2
    subst h1; subst h2
    exact binA_int e
  · have h1 := hx.c; have h2 := hy.c
    simp only [CR] at h1 h2
    subst h1; subst h2
    exact binA_str e
  · have h1 := hx.c; have h2 := hy.c
    simp only [CR] at h1 h2
    subst h1; subst h2
    exact binA_bool (hu _ _ rfl rfl) e
  · exact (eval_fail e).elim

theorem unA_sim {op : UnOp} {X : A} {vx : Value} (hx : AR w base Zp h g X vx) (e : (unA op X).eval next h L = some (r, h', L')) :
    h' = h ∧ ∃ c v, r = .v false [c] ∧ (Op.unary op vx).run P w = .ok v w ∧ CR w base Zp h g c v := by
  unfold unA at e
  split at e <;> first
    | exact (eval_fail e).elim
    | (have h1 := hx.c
       simp only [CR] at h1
       subst h1
       first
         | (obtain ⟨rfl, rfl, _⟩ := eval_retI e
            refine ⟨rfl, _, _, rfl, ?_, rfl⟩
            simp [Op.unary, Op.intArith, Op.intBits, bito]; done)
         | (obtain ⟨rfl, rfl, _⟩ := eval_retB e
            refine ⟨rfl, _, _, rfl, ?_, rfl⟩
            simp [Op.unary]; done))
end
end Go.Am

/- The abstract machine: parts, loads, addresses, slices. -/
namespace Go.Am
open Go

section
variable {P : Program} {w0 w : World} {Z0 Zp : Zone} {h h' : Heap} {g : G} {new next base : Nat} {r : A} {L L' : Log} {X : Cx}

theorem addr_add (b off j : Nat) : (⟨b, off, none⟩ : Addr).add j = ⟨b, off + j, none⟩ := by
  unfold Addr.add; split
  · rename_i h; subst h; rfl
  · rfl

theorem sub_some {off size : Nat} {cs ds : List C} (hs : sub off size cs = some ds) : off + size ≤ cs.length ∧ ds = (cs.drop off).take size := by
  unfold sub at hs
  split at hs
  · rename_i hb; cases hs; exact ⟨Nat.le_of_ble_eq_true hb, rfl⟩
  · cases hs

theorem partOf_eval {agg : Bool} {size off : Nat} {cs : List C} (e : (partOf agg size off cs .ret).eval next h L = some (r, h', L')) :
    h' = h ∧ L' = L ∧ off + size ≤ cs.length ∧ r = .v agg ((cs.drop off).take size) ∧ (agg = false → size = 1) := by
  unfold partOf at e
  split at e
  · rename_i ds hs
    obtain ⟨h1, h2⟩ := sub_some hs
    subst h2
    split at e
    · rename_i ha
      simp [HM.eval] at e
      exact ⟨e.2.1.symm, e.2.2.symm, h1, by rw [← e.1], fun hh => by cases hh⟩
    · rename_i c hc hc2
      simp [HM.eval] at e
      refine ⟨e.2.1.symm, e.2.2.symm, h1, by rw [← e.1, hc2], fun _ => ?_⟩
      have := congrArg List.length hc2
      simp at this
      omega
    · exact (eval_fail e).elim
  · exact (eval_fail e).elim

theorem getElem?_sub {α : Type} (vs : List α) (c n j : Nat) (u : α) (h : ((vs.drop c).take n)[j]? = some u) : vs[c + j]? = some u := by
  rw [List.getElem?_take] at h
  split at h
  · rw [List.getElem?_drop] at h; exact h
  · cases h

theorem load_sim {t : TypeId} {d : TD} (T : TOK P t d) {cs : List C} {vs : List Value} {b off c : Nat} (hc : CRs w base Zp h g cs vs)
    (hv : ∀ j u, vs[j]? = some u → w.cell? ⟨b, off + j, none⟩ = some u) (e : (partOf d.agg d.size c cs .ret).eval next h L = some (r, h', L')) :
    h' = h ∧ ∃ v, (loadVar t ⟨b, off + c, none⟩).run P w = .ok v w ∧ AR w base Zp h g r v := by
  obtain ⟨rfl, _, h1, rfl, h2⟩ := partOf_eval e
  have hl := hc.length
  have hsub : ∀ j u, ((vs.drop c).take d.size)[j]? = some u → w.cell? ((⟨b, off + c, none⟩ : Addr).add j) = some u := fun j u hj => by
    rw [addr_add, Nat.add_assoc]; exact hv (c + j) u (getElem?_sub vs c d.size j u hj)
  have hlen : ((vs.drop c).take d.size).length = d.size := by simp; omega
  have hcs := CRs.take d.size _ _ (CRs.drop c _ _ hc)
  refine ⟨rfl, ?_⟩
  cases ha : d.agg with
  | true =>
    have hld := run_loadCells_list (P := P) w ⟨b, off + c, none⟩ ((vs.drop c).take d.size) hsub
    rw [hlen] at hld
    refine ⟨_, ?_, (vs.drop c).take d.size, rfl, hcs⟩
    simp [loadVar, T.isAgg, T.sizeOf, ha, hld]
  | false =>
    have h3 := h2 ha
    rw [h3] at hcs hlen hsub
    obtain ⟨v, hv⟩ : ∃ v, (vs.drop c).take 1 = [v] := List.length_eq_one_iff.1 hlen
    refine ⟨v, ?_, ?_⟩
    · have := hsub 0 v (by rw [hv]; rfl)
      rw [addr_add, Nat.add_zero] at this
      simp [loadVar, T.isAgg, ha, run_load, this]
    · rw [h3]; rw [hv] at hcs; exact hcs

theorem part_sim {t : TypeId} {d : TD} (T : TOK P t d) {cs : List C} {vs : List Value} {c : Nat} (hc : CRs w base Zp h g cs vs)
    (e : (partOf d.agg d.size c cs .ret).eval next h L = some (r, h', L')) :
    h' = h ∧ ∃ v, (part t vs.toArray c).run P w = .ok v w ∧ AR w base Zp h g r v := by
  obtain ⟨rfl, _, h1, rfl, h2⟩ := partOf_eval e
  have hl := hc.length
  have hlen : ((vs.drop c).take d.size).length = d.size := by simp; omega
  have hcs := CRs.take d.size _ _ (CRs.drop c _ _ hc)
  refine ⟨rfl, ?_⟩
  cases ha : d.agg with
  | true =>
    refine ⟨.agg (vs.toArray.extract c (c + d.size)), ?_, (vs.drop c).take d.size, ?_, hcs⟩
    · simp [part, T.isAgg, T.sizeOf, ha]
    · simp
  | false =>
    have h3 := h2 ha
    rw [h3] at hcs hlen
    obtain ⟨v, hv⟩ : ∃ v, (vs.drop c).take 1 = [v] := List.length_eq_one_iff.1 hlen
    refine ⟨v, ?_, ?_⟩
    · have h4 : vs[c]? = some v := by
        have := getElem?_sub vs c 1 0 v (by rw [hv]; rfl)
        simpa using this
      simp [part, T.isAgg, ha, h4]
    · rw [h3]; rw [hv] at hcs; exact hcs

theorem PRL.get {α : Type} {R : α → List Value → Prop} {k : Nat} (hk : ∀ x es, R x es → es.length = k) : ∀ (l : List α) (vs : List Value), PRL R l vs → ∀ (i : Nat) (x : α), l[i]? = some x → R x ((vs.drop (i * k)).take k)
  | [], _, _, i, x, hx => by simp at hx
  | y :: l, _, ⟨es, rest, e, h1, h2⟩, 0, x, hx => by
    simp at hx; subst hx; subst e
    have := hk _ _ h1
    simp [← this]
    exact h1
  | y :: l, _, ⟨es, rest, e, h1, h2⟩, i + 1, x, hx => by
    subst e
    have h3 := PRL.get hk l rest h2 i x (by simpa using hx)
    have h4 := hk _ _ h1
    have : (i + 1) * k = es.length + i * k := by rw [h4, Nat.add_mul]; omega
    rw [this, ← List.drop_drop, List.drop_left]
    exact h3

theorem PR.k {Z : Zone} (e : Ty) : ∀ (x : e.den) (es : List Value), PR w Z Zp e x es → es.length = e.size := fun x es hh => PR.length e x es hh

theorem cell_block {b : Nat} {cur : Array Value} {e0 : TypeId} {fz : Nat × Nat} (hb : w.heap[b]? = some (.cells cur e0 fz)) (i : Nat) : w.cell? ⟨b, i, none⟩ = cur[i]? := by
  simp [World.cell?, hb]

/-- the cells of a whole block, as 'load_sim' wants them -/
theorem block_cells {b : Nat} {cur : Array Value} {e0 : TypeId} {fz : Nat × Nat} (hb : w.heap[b]? = some (.cells cur e0 fz)) (k n : Nat) : ∀ j u, ((cur.toList.drop k).take n)[j]? = some u → w.cell? ⟨b, k + j, none⟩ = some u := by
  intro j u hj
  rw [cell_block hb]
  have := getElem?_sub _ k n j u hj
  simpa using this

theorem loadM_sim (R : HR w0 Z0 Zp h g w) {t : TypeId} {d : TD} (T : TOK P t d) {a : A} {v : Value} (ha : AR w w0.heap.size Zp h g a v) (e : (loadM d a).eval next h L = some (r, h', L')) :
    h' = h ∧ ∃ u, (Instr.loadAt t v).run P w = .ok u w ∧ AR w w0.heap.size Zp h g r u := by
  unfold loadM at e
  split at e
  · rename_i o off
    have e := eval_get e
    split at e
    · rename_i cs ho
      obtain ⟨hal, hp, hd⟩ := ha.c
      obtain ⟨b, hb, rfl⟩ := hd (by rw [ho]; simp)
      have hob := R.ob o
      rw [ho] at hob
      obtain ⟨b', cur, e0, hb', hcur, hcs⟩ := hob
      rw [hb] at hb'; cases hb'
      have := load_sim (P := P) T (off := 0) (b := b) hcs (fun j u hj => by rw [Nat.zero_add, cell_block hcur]; simpa using hj) e
      simpa [Instr.loadAt, Instr.sureAddr] using this
    · exact (eval_fail e).elim
  · rename_i τ x c
    obtain ⟨b, off, us, rfl, hpr, hce⟩ := ha.c
    have := load_sim (P := P) T (h := h) (g := g) (base := w0.heap.size) (Zp := Zp) (CRs.of_PR τ x us hpr) (fun j u hj => (hce j u hj).1) e
    simpa [Instr.loadAt, Instr.sureAddr] using this
  · rename_i o i c
    have e := eval_get e
    split at e
    · rename_i ety l ho
      obtain ⟨x, hx, e⟩ := eval_opt e
      obtain ⟨hal, hp, hd⟩ := ha.c
      obtain ⟨b, hb, rfl⟩ := hd ety (List.length l) (by rw [ho]; rfl)
      have hob := R.ob o
      rw [ho] at hob
      obtain ⟨_, _, b', cur, e0, hb', hcur, hpr⟩ := hob
      rw [hb] at hb'; cases hb'
      have hx1 := PRL.get (PR.k ety) l _ hpr i x hx
      have := load_sim (P := P) T (h := h) (g := g) (base := w0.heap.size) (Zp := Zp) (CRs.of_PR ety x _ hx1) (b := b) (off := i * ety.size) (block_cells hcur _ _) e
      simpa [Instr.loadAt, Instr.sureAddr] using this
    · rename_i ety l ho
      obtain ⟨x, hx, e⟩ := eval_opt e
      obtain ⟨hal, hp, hd⟩ := ha.c
      obtain ⟨b, hb, rfl⟩ := hd ety (List.length l) (by rw [ho]; rfl)
      have hob := R.ob o
      rw [ho] at hob
      obtain ⟨_, _, b', cur, e0, fz, hb', hcur, hpr, _⟩ := hob
      rw [hb] at hb'; cases hb'
      have hx1 := PRL.get (PR.k ety) l _ hpr i x hx
      have := load_sim (P := P) T (h := h) (g := g) (base := w0.heap.size) (Zp := Zp) (CRs.of_PR ety x _ hx1) (b := b) (off := i * ety.size) (block_cells hcur _ _) e
      simpa [Instr.loadAt, Instr.sureAddr] using this
    · exact (eval_fail e).elim
  · rename_i o off len i
    split at e
    · rename_i k hk
      have e := eval_get e
      split at e
      · rename_i cs ho
        split at e
        · rename_i ds hs
          split at e
          · rename_i l hl
            obtain ⟨n, hn, e⟩ := eval_opt e
            obtain ⟨rfl, rfl, _⟩ := eval_retI e
            obtain ⟨hal, hp, hd⟩ := ha.c
            obtain ⟨b, hb, rfl⟩ := hd (by rw [ho]; simp)
            have hob := R.ob o
            rw [ho] at hob
            obtain ⟨b', cur, e0, hb', hcur, hcs⟩ := hob
            rw [hb] at hb'; cases hb'
            obtain ⟨_, rfl⟩ := sub_some hs
            have hsub := CRs.take len _ _ (CRs.drop off _ _ hcs)
            have key : ∀ (cs : List C) (vs : List Value) (l : List Int), CRs w w0.heap.size Zp h' g cs vs → intsOf k cs = some l → ∀ (i : Nat) (n : Int), l[i]? = some n → vs[i]? = some (.int k n) := by
              intro cs
              induction cs with
              | nil => intro vs l _ hl i n hn; simp [intsOf] at hl; subst hl; simp at hn
              | cons c cs ih =>
                intro vs l hcs hl i n hn
                obtain ⟨v, rest, e, h1, h2⟩ := hcs
                subst e
                cases c <;> simp only [intsOf] at hl <;> try (cases hl; done)
                split at hl
                · rename_i hkk _; subst hkk
                  split at hl
                  · rename_i l2 hl2
                    cases hl
                    cases i with
                    | zero => simp at hn; subst hn; simpa [CR] using h1
                    | succ i => simp at hn; simpa using ih rest l2 h2 hl2 i n hn
                  · cases hl
                · cases hl
            have h5 := getElem?_sub _ _ _ _ _ (key _ _ _ hsub hl i n hn)
            have hcell : w.cell? ⟨b, off + i, none⟩ = some (.int k n) := by rw [cell_block hcur]; simpa using h5
            have hagg : d.agg = false := by have := T.agg; rw [hk] at this; simpa [aggK] using this.symm
            refine ⟨rfl, .int k n, ?_, AR.ofC rfl⟩
            simp [Instr.loadAt, Instr.sureAddr, loadVar, T.isAgg, hagg, run_load, hcell]
          · exact (eval_fail e).elim
        · exact (eval_fail e).elim
      · exact (eval_fail e).elim
    · exact (eval_fail e).elim
  · exact (eval_fail e).elim

/-- the field's place -/
theorem fieldPlace_run {f : Field} {df : TD} (T : TOK P f.type df) (hz : 0 < df.size) (b off : Nat) : (fieldPlace ⟨b, off, none⟩ f).run P w = .ok ⟨b, off + f.offset, none⟩ w := by
  have : df.size ≠ 0 := by omega
  simp [fieldPlace, T.sizeOf, this, addr_add]

theorem ptrAdd_sim {a : A} {v : Value} {n : Nat} (hh : AR w base Zp h g a v) (e : (ptrAdd a n).eval next h L = some (r, h', L')) :
    h' = h ∧ ∃ b off, v = .pointer (some ⟨b, off, none⟩) ∧ AR w base Zp h g r (.pointer (some ⟨b, off + n, none⟩)) := by
  unfold ptrAdd at e
  split at e
  · rename_i o off
    have e := eval_get e
    split at e
    · exact (eval_fail e).elim
    · rename_i hd0
      obtain ⟨rfl, rfl, _⟩ := eval_retC e
      obtain ⟨hal, ⟨adr, hp⟩, hd⟩ := hh.c
      obtain ⟨b, h1, h2⟩ := hd hd0
      exact ⟨rfl, b, off, h2, AR.ofC ⟨hal, ⟨_, rfl⟩, fun _ => ⟨b, h1, rfl⟩⟩⟩
  · rename_i τ x c
    obtain ⟨rfl, rfl, _⟩ := eval_retC e
    obtain ⟨b, off, us, hp, h1, h2⟩ := hh.c
    exact ⟨rfl, b, off + c, hp, AR.ofC ⟨b, off, us, by rw [Nat.add_assoc], h1, h2⟩⟩
  · rename_i o i c
    have e := eval_get e
    split at e
    · rename_i ety l ho
      obtain ⟨rfl, rfl, _⟩ := eval_retC e
      obtain ⟨hal, ⟨adr, hp⟩, hd⟩ := hh.c
      obtain ⟨b, h1, h2⟩ := hd ety (List.length l) (by rw [ho]; rfl)
      refine ⟨rfl, b, _, h2, AR.ofC ⟨hal, ⟨_, rfl⟩, fun e2 n2 he => ?_⟩⟩
      obtain ⟨b2, h3, h4⟩ := hd e2 n2 he
      rw [h1] at h3; cases h3
      rw [h2] at h4
      simp at h4
      exact ⟨b, h1, by simp; try omega⟩
    · rename_i ety l ho
      obtain ⟨rfl, rfl, _⟩ := eval_retC e
      obtain ⟨hal, ⟨adr, hp⟩, hd⟩ := hh.c
      obtain ⟨b, h1, h2⟩ := hd ety (List.length l) (by rw [ho]; rfl)
      refine ⟨rfl, b, _, h2, AR.ofC ⟨hal, ⟨_, rfl⟩, fun e2 n2 he => ?_⟩⟩
      obtain ⟨b2, h3, h4⟩ := hd e2 n2 he
      rw [h1] at h3; cases h3
      rw [h2] at h4
      simp at h4
      exact ⟨b, h1, by simp; try omega⟩
    · exact (eval_fail e).elim
  · exact (eval_fail e).elim

theorem idx_some {α : Type} {l : List α} {i : Int} {x : α} (hx : idx l i = some x) : 0 ≤ i ∧ i < l.length ∧ l[i.toNat]? = some x := by
  unfold idx at hx
  split at hx
  · rename_i h0
    have := (List.getElem?_eq_some_iff.1 hx).1
    exact ⟨h0, by omega, hx⟩
  · cases hx

theorem ck_some {i : Int} {n k : Nat} (hx : ck i n = some k) : 0 ≤ i ∧ i < n ∧ k = i.toNat := by
  unfold ck at hx
  split at hx
  · rename_i h0; cases hx; exact ⟨h0.1, h0.2, rfl⟩
  · cases hx

/-- the element of a slice that is data -/
theorem elem_at {Z : Zone} {e : Ty} {l : List e.den} {v : Value} (hp : PR w Z Zp (.sl e) l [v]) {i : Nat} {x : e.den} (hx : l[i]? = some x) (h0 : 0 < e.size) :
    ∃ b off cap, v = .slice (some ⟨b, off, none⟩) (List.length l) cap ∧ List.length l ≤ cap ∧ ∃ us, PR w Z Zp e x us ∧ ∀ j u, us[j]? = some u → w.cell? ⟨b, off + i * e.size + j, none⟩ = some u ∧ Z b (off + i * e.size + j) := by
  obtain ⟨bs, cap, us, hv, hcap, hpl, hat⟩ := hp
  have hlen := PRL.length (PR.k e) l us hpl
  have hi := (List.getElem?_eq_some_iff.1 hx).1
  have hne : us ≠ [] := by
    intro h0'
    have h1 : us.length = 0 := by rw [h0']; rfl
    rw [hlen] at h1
    have h2 : 0 < List.length l * e.size := Nat.mul_pos (by omega) h0
    omega
  obtain ⟨b, off, rfl, hc⟩ := hat hne
  simp at hv
  refine ⟨b, off, cap, hv, hcap, _, PRL.get (PR.k e) l us hpl i x hx, fun j u hj => ?_⟩
  have := hc _ _ (getElem?_sub _ _ _ _ _ hj)
  rw [Nat.add_assoc]
  exact this

theorem sizeIs_spec (hX : XOK P X.tt) {t : TypeId} {n : Nat} (hs : sizeIs X t n = true) : 0 < n ∧ ∀ w : World, (Go.sizeOf t).run P w = .ok n w := by
  unfold sizeIs at hs
  split at hs
  · rename_i d hd
    simp only [Bool.and_eq_true] at hs
    have h1 := Nat.eq_of_beq_eq_true hs.1
    have h2 : 0 < n := by have := hs.2; simp [Nat.blt_eq] at this; exact this
    exact ⟨h2, fun w => by rw [(hX.get hd).sizeOf, h1]⟩
  · cases hs

theorem indexAddr_sim (hX : XOK P X.tt) (_ : HR w0 Z0 Zp h g w) {t : TypeId} {d : TD} (T : TOK P t d) {x ix : A} {vx vi : Value} (hx : AR w w0.heap.size Zp h g x vx) (hi : AR w w0.heap.size Zp h g ix vi)
    (e : (indexAddrM X d x ix).eval next h L = some (r, h', L')) :
    h' = h ∧ ∃ u, (Instr.indexAt t vx vi).run P w = .ok u w ∧ AR w w0.heap.size Zp h g r u := by
  unfold indexAddrM at e
  split at e
  · rename_i k i
    have hvi := hi.c
    simp only [CR] at hvi
    subst hvi
    split at e
    · rename_i _ _ te ety l tk hd
      split at e
      · rename_i hse
        obtain ⟨hpos, hso⟩ := sizeIs_spec hX hse
        obtain ⟨y, hy, e⟩ := eval_opt e
        obtain ⟨rfl, rfl, _⟩ := eval_retC e
        obtain ⟨h0, h1, h2⟩ := idx_some hy
        obtain ⟨b, off, cap, rfl, _, us, hpr, hc⟩ := elem_at hx.c.1 h2 hpos
        refine ⟨rfl, _, ?_, AR.ofC ⟨b, off + i.toNat * ety.size, us, rfl, hpr, fun j u hj => ⟨(hc j u hj).1, .inl (hc j u hj).2⟩⟩⟩
        have : i < ((List.length l : Nat) : Int) := h1
        simp [Instr.indexAt, asIntOf, run_underlying (T.slice hd), h0, this, hso, addr_add]
      · exact (eval_fail e).elim
    · rename_i _ _ te o hd
      have e := eval_get e
      obtain ⟨hal, hs, hr⟩ := hx.c
      split at e
      · rename_i ety l ho
        split at e
        · rename_i hse
          obtain ⟨hpos, hso⟩ := sizeIs_spec hX hse
          obtain ⟨n, hn, e⟩ := eval_opt e
          obtain ⟨rfl, rfl, _⟩ := eval_retC e
          obtain ⟨h0, h1, rfl⟩ := ck_some hn
          have hrl : rowLen (look .dead o h') = some (ety, List.length l) := by rw [ho]; rfl
          obtain ⟨b, hb, rfl⟩ := hr ety _ hrl
          refine ⟨rfl, .pointer (some ⟨b, i.toNat * ety.size, none⟩), ?_, AR.ofC ⟨hal, ⟨_, rfl⟩, fun e2 n2 he => ?_⟩⟩
          · simp [Instr.indexAt, asIntOf, run_underlying (T.slice hd), h0, h1, hso, addr_add]
          · rw [hrl] at he; cases he
            exact ⟨b, hb, rfl⟩
        · exact (eval_fail e).elim
      · rename_i ety l ho
        split at e
        · rename_i hse
          obtain ⟨hpos, hso⟩ := sizeIs_spec hX hse
          obtain ⟨n, hn, e⟩ := eval_opt e
          obtain ⟨rfl, rfl, _⟩ := eval_retC e
          obtain ⟨h0, h1, rfl⟩ := ck_some hn
          have hrl : rowLen (look .dead o h') = some (ety, List.length l) := by rw [ho]; rfl
          obtain ⟨b, hb, rfl⟩ := hr ety _ hrl
          refine ⟨rfl, .pointer (some ⟨b, i.toNat * ety.size, none⟩), ?_, AR.ofC ⟨hal, ⟨_, rfl⟩, fun e2 n2 he => ?_⟩⟩
          · simp [Instr.indexAt, asIntOf, run_underlying (T.slice hd), h0, h1, hso, addr_add]
          · rw [hrl] at he; cases he
            exact ⟨b, hb, rfl⟩
        · exact (eval_fail e).elim
      · exact (eval_fail e).elim
    · rename_i _ _ len te o off hd
      split at e
      · rename_i de hde
        split at e
        · rename_i hc
          simp only [Bool.and_eq_true] at hc
          have hs1 := Nat.eq_of_beq_eq_true hc.1
          have hl1 : 1 < len := by have := hc.2; simp [Nat.blt_eq] at this; exact this
          have e := eval_get e
          split at e
          · rename_i cs ho
            obtain ⟨n, hn, e⟩ := eval_opt e
            obtain ⟨rfl, rfl, _⟩ := eval_retC e
            obtain ⟨h0, h1, rfl⟩ := ck_some hn
            obtain ⟨hal, hs, hr⟩ := hx.c
            obtain ⟨b, hb, rfl⟩ := hr (by rw [ho]; simp)
            have Te := hX.get hde
            refine ⟨rfl, _, ?_, AR.ofC ⟨hal, ⟨_, rfl⟩, fun _ => ⟨b, hb, rfl⟩⟩⟩
            simp [Instr.indexAt, asIntOf, run_underlying (T.array hd), h0, h1, Te.sizeOf, addr_add, hs1, Instr.sureAddr]
          · exact (eval_fail e).elim
        · exact (eval_fail e).elim
      · exact (eval_fail e).elim
    · exact (eval_fail e).elim
  · exact (eval_fail e).elim

end
end Go.Am
