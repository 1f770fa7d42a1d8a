import Derived.Test.YtfafklfpikjheaaGreatA4
set_option linter.unusedVariables false
set_option linter.unusedSimpArgs false
/- The abstract machine: calls. -/
namespace Go.Am
open Go

/-- a value as a typed datum -/
def VT (w : World) (Z Zp : Zone) (τ : Ty) (x : τ.den) (v : Value) : Prop :=
  match τ.isAgg with
  | true => ∃ us : List Value, v = .agg us.toArray ∧ PR w Z Zp τ x us
  | false => PR w Z Zp τ x [v]

def ArgsR (w : World) (Z Zp : Zone) : (ps : List Ty) → (tup ps).den → List Value → Prop
  | [], _, vs => vs = []
  | [τ], x, vs => ∃ v, vs = [v] ∧ VT w Z Zp τ x v
  | τ :: σ :: r, x, vs => ∃ v rest, vs = v :: rest ∧ VT w Z Zp τ x.1 v ∧ ArgsR w Z Zp (σ :: r) x.2 rest

def ResR (w : World) (Z Zp : Zone) (rs : List Ty) (x : (tup rs).den) (v : Value) : Prop :=
  match rs, x with
  | [τ], x => VT w Z Zp τ x v
  | rs, x => ∃ vs : List Value, v = .tuple vs.toArray ∧ ArgsR w Z Zp rs x vs

def noZone : Zone := fun _ _ => False

/-- behind a call's beginning: the zone and the blocks that are new -/
def Znew (Z : Zone) (w w' : World) : Zone := fun b i => Z b i ∨ (w.heap.size ≤ b ∧ b < w'.heap.size)

/-- A FUNCTION DOES WHAT ITS ENTRY SAYS. -/
structure PSound (P : Program) (f : FuncId) (E : Entry) : Prop where
  fn : ∃ fn, P.funcs[f]? = some fn ∧ (fn.name == "runtime.NumGoroutine") = false ∧ fn.body.isNone = false
  nr : E.rs.all Ty.noRef = true
  calls : ∀ (w : World) (Z Zp : Zone) (x : (tup E.ps).den) (r : (tup E.rs).den) (args : List Value), (∀ b i, Z b i → b < w.heap.size) → (∀ b i, Zp b i → b < w.heap.size) → ArgsR w Z Zp E.ps x args → E.F x = some r →
    Calls P f args.toArray w fun e w' => ∃ v, e = .returned v ∧ w.Extends w' ∧ ResR w' (Znew Z w w') noZone E.rs r v

/-- .. but the cells of the block that is the caller's own, from 'lo' on -/
def ZnewO (Z : Zone) (w w' : World) (ob : Option Nat) (lo : Nat) : Zone := fun b i => Z b i ∨ (w.heap.size ≤ b ∧ b < w'.heap.size ∧ (ob = some b → i < lo))

/-- a slice of its own -/
def OwnR (w w' : World) (size len : Nat) (ob : Option Nat) (v : Value) : Prop :=
  (ob = none ∧ v = .slice none 0 0 ∧ len = 0) ∨
  (∃ b cap cur e0, ob = some b ∧ v = .slice (some ⟨b, 0, none⟩) len cap ∧ w'.heap[b]? = some (.cells cur e0 (0, 0)) ∧
    len ≤ cap ∧ cap ≤ maxLen ∧ cur.size = cap * size ∧ w.heap.size ≤ b)

/-- A FUNCTION HANDS BACK A SLICE OF ITS OWN, AS ITS ENTRY SAYS. -/
structure OSound (P : Program) (f : FuncId) (E : OEntry) : Prop where
  fn : ∃ fn, P.funcs[f]? = some fn ∧ (fn.name == "runtime.NumGoroutine") = false ∧ fn.body.isNone = false
  nr : E.e.noRef = true
  calls : ∀ (w : World) (Z Zp : Zone) (x : (tup E.ps).den) (l : List E.e.den) (args : List Value), (∀ b i, Z b i → b < w.heap.size) → (∀ b i, Zp b i → b < w.heap.size) → ArgsR w Z Zp E.ps x args → E.F x = some l →
    Calls P f args.toArray w fun e w' => ∃ v ob, e = .returned v ∧ w.Extends w' ∧ PR w' (ZnewO Z w w' ob (l.length * E.e.size)) noZone (.sl E.e) l [v] ∧ OwnR w w' E.e.size l.length ob v

section
variable {P : Program} {w0 w w' : World} {Z0 Zp : Zone} {h h' : Heap} {g : G} {new next base : Nat} {r : A} {L L' : Log} {X : Cx}

theorem VT.mono {Z Z' Zq Zq' : Zone} (h1 : Keeps w w' Z Z') (h2 : Keeps w w' Zq Zq') {τ : Ty} {x : τ.den} {v : Value} (hh : VT w Z Zq τ x v) : VT w' Z' Zq' τ x v := by
  unfold VT at hh ⊢
  cases ha : τ.isAgg <;> simp only [ha] at hh ⊢
  case true => obtain ⟨us, e, hp⟩ := hh; exact ⟨us, e, PR.mono h1 h2 _ _ _ hp⟩
  case false => exact PR.mono h1 h2 _ _ _ hh

theorem VT.flat {Z Z' Zq Zq' : Zone} {τ : Ty} (hf : τ.flat = true) {x : τ.den} {v : Value} (hh : VT w Z Zq τ x v) : VT w' Z' Zq' τ x v := by
  unfold VT at hh ⊢
  cases ha : τ.isAgg <;> simp only [ha] at hh ⊢
  case true => obtain ⟨us, e, hp⟩ := hh; exact ⟨us, e, PR.flat _ _ _ hf hp⟩
  case false => exact PR.flat _ _ _ hf hh

theorem VT.noRef {Z Zq Zq' : Zone} {τ : Ty} (hf : τ.noRef = true) {x : τ.den} {v : Value} (hh : VT w Z Zq τ x v) : VT w Z Zq' τ x v := by
  unfold VT at hh ⊢
  cases ha : τ.isAgg <;> simp only [ha] at hh ⊢
  case true => obtain ⟨us, e, hp⟩ := hh; exact ⟨us, e, PR.noRef _ _ _ hf hp⟩
  case false => exact PR.noRef _ _ _ hf hh

theorem VT.toVR {τ : Ty} {x : τ.den} {v : Value} (hh : VT w g.Z Zp τ x v) : VR w base Zp h g τ.isAgg (τ.cells x) v := by
  unfold VT at hh
  unfold VR
  cases ha : τ.isAgg <;> simp only [ha] at hh ⊢
  case true => obtain ⟨us, e, hp⟩ := hh; exact ⟨us, e, CRs.of_PR _ _ _ hp⟩
  case false => exact CRs.of_PR _ _ _ hh

theorem ArgsR.map {w1 w2 : World} {Z1 Z2 Q1 Q2 : Zone} {p : Ty → Bool} (hV : ∀ τ (x : τ.den) v, p τ = true → VT w1 Z1 Q1 τ x v → VT w2 Z2 Q2 τ x v) : ∀ (ps : List Ty) (x : (tup ps).den) (vs : List Value), ps.all p = true → ArgsR w1 Z1 Q1 ps x vs → ArgsR w2 Z2 Q2 ps x vs
  | [], _, _, _, hh => hh
  | [τ], x, _, hp, ⟨v, e, hv⟩ => ⟨v, e, hV τ x v (by simpa using hp) hv⟩
  | τ :: σ :: r, x, _, hp, ⟨v, rest, e, hv, hr⟩ => by
    simp only [List.all_cons, Bool.and_eq_true] at hp
    exact ⟨v, rest, e, hV τ _ v hp.1 hv, ArgsR.map hV (σ :: r) x.2 rest (by simpa using hp.2) hr⟩

theorem ResR.map {w1 w2 : World} {Z1 Z2 Q1 Q2 : Zone} {p : Ty → Bool} (hV : ∀ τ (x : τ.den) v, p τ = true → VT w1 Z1 Q1 τ x v → VT w2 Z2 Q2 τ x v) (rs : List Ty) (x : (tup rs).den) (v : Value) (hp : rs.all p = true) (hh : ResR w1 Z1 Q1 rs x v) : ResR w2 Z2 Q2 rs x v := by
  match rs, x, hp, hh with
  | [τ], x, hp, hh => exact hV τ x v (by simpa using hp) hh
  | [], x, hp, ⟨vs, e, hv⟩ => exact ⟨vs, e, ArgsR.map hV _ _ _ hp hv⟩
  | τ :: σ :: r, x, hp, ⟨vs, e, hv⟩ => exact ⟨vs, e, ArgsR.map hV _ _ _ hp hv⟩

theorem encPs_R : ∀ (rs : List Ty) (x : (tup rs).den) (vs : List Value), ArgsR w g.Z Zp rs x vs → PRL (fun (p : Bool × List C) es => ∃ u, es = [u] ∧ VR w base Zp h g p.1 p.2 u) (encPs rs x) vs
  | [], _, _, hh => hh
  | [τ], x, _, ⟨v, e, hv⟩ => ⟨[v], [], by simp [e], ⟨v, rfl, hv.toVR⟩, rfl⟩
  | τ :: σ :: r, x, _, ⟨v, rest, e, hv, hr⟩ => ⟨[v], rest, by simp [e], ⟨v, rfl, hv.toVR⟩, encPs_R (σ :: r) x.2 rest hr⟩

theorem encRes_AR (rs : List Ty) (x : (tup rs).den) (v : Value) (hh : ResR w g.Z Zp rs x v) : AR w base Zp h g (encRes rs x) v := by
  match rs, x, hh with
  | [τ], x, hh => exact VT.toVR hh
  | [], x, ⟨vs, e, hv⟩ => exact ⟨vs, e, encPs_R _ _ _ hv⟩
  | τ :: σ :: r, x, ⟨vs, e, hv⟩ => exact ⟨vs, e, encPs_R _ _ _ hv⟩

/-- all cells that there are -/
def All (w : World) : Zone := fun b _ => b < w.heap.size

theorem keeps_all (R : HR w0 Z0 Zp h g w) : Keeps w w g.Z (All w) := fun b i hz => ⟨R.zlt b i hz, rfl⟩
theorem keeps_zp (R : HR w0 Z0 Zp h g w) : Keeps w w Zp (All w) := fun b i hz => ⟨Nat.lt_of_lt_of_le (R.zp b i hz) R.base_le, rfl⟩
theorem keeps_rows (R : HR w0 Z0 Zp h g w) : Keeps w w (withRows h g w).Z (All w) := fun b i hz => ⟨by
  rcases hz with hz | ⟨o, e, l, ho, hb, hc⟩
  · exact R.zlt b i hz
  · exact (R.home o b (by rw [ho]; simp) hb).2, rfl⟩

/-- the cells that a value is, in its own list -/
theorem VR.list {gg : Bool} {cs : List C} {v : Value} (hv : VR w base Zp h g gg cs v) : ∃ vs, CRs w base Zp h g cs vs ∧ (gg = true → v = .agg vs.toArray) ∧ (gg = false → vs = [v]) := by
  cases gg with
  | true => obtain ⟨vs, e, h1⟩ := hv; exact ⟨vs, h1, fun _ => e, fun h => by cases h⟩
  | false => exact ⟨[v], hv, fun h => (by cases h), fun _ => rfl⟩

theorem VT.list {Z Zq : Zone} {τ : Ty} {x : τ.den} {v : Value} {vs : List Value} {gg : Bool} (hg : gg = τ.isAgg) (h1 : gg = true → v = .agg vs.toArray) (h2 : gg = false → vs = [v]) (hp : PR w Z Zq τ x vs) : VT w Z Zq τ x v := by
  subst hg
  unfold VT
  cases ha : τ.isAgg with
  | true => exact ⟨vs, h1 ha, hp⟩
  | false => rw [h2 ha] at hp; exact hp

/-- an argument; 'mark': the callee's results may hold on to it -/
theorem argM_sim (mark : Bool) (R : HR w0 Z0 Zp h g w) {τ : Ty} {a : A} {v : Value} (ha : AR w w0.heap.size Zp h g a v) {k : τ.den → HM} {res : A × Heap × Log} (e : (argM mark τ a k).eval next h L = some res) :
    ∃ x h1 g1 L1, (k x).eval next h1 L1 = some res ∧ HR w0 Z0 Zp h1 g1 w ∧ Le Zp h g w h1 g1 w ∧ g1.al = g.al ∧ VT w (if mark = true then g1.Z else All w) (All w) τ x v := by
  unfold argM at e
  split at e
  · rename_i σ o off k
    split at e
    · rename_i hnr
      have e := eval_get e
      split at e
      · rename_i cs ho
        obtain ⟨hal, hp, hd⟩ := ha.c
        obtain ⟨b, hb, rfl⟩ := hd (by rw [ho]; simp)
        have hob := R.ob o
        rw [ho] at hob
        obtain ⟨b', cur, e0, hb', hcur, hcs⟩ := hob
        rw [hb] at hb'; cases hb'
        have hsub := CRs.take σ.size _ _ (CRs.drop off _ _ hcs)
        have hblk := (R.home o b (by rw [ho]; simp) hb).2
        cases mark with
        | true =>
          obtain ⟨cs', h1, g1, L1, e, R1, Le1, hg1, hcs1⟩ := freezeCs_true _ _ h g _ _ _ R hsub e
          split at e
          · rename_i x hx
            have hpr := takeAll_PR hnr hcs1 hx
            refine ⟨x, h1, g1, L1, e, R1, Le1, hg1, b, off, _, rfl, PR.mono (Keeps.refl _ _) (keeps_zp R1) _ _ _ hpr, fun j u hj => ⟨block_cells hcur off σ.size j u hj, hblk⟩⟩
          · exact (eval_fail e).elim
        | false =>
          obtain ⟨cs', L1, e, hcs1⟩ := freezeCs_false R _ _ _ _ _ hsub e
          split at e
          · rename_i x hx
            have hpr := takeAll_PR hnr hcs1 hx
            refine ⟨x, h, g, L1, e, R, Le.refl _ _ _ _, rfl, b, off, _, rfl, PR.mono (keeps_rows R) (keeps_zp R) _ _ _ hpr, fun j u hj => ⟨block_cells hcur off σ.size j u hj, hblk⟩⟩
          · exact (eval_fail e).elim
      · exact (eval_fail e).elim
    · exact (eval_fail e).elim
  · rename_i σ a' y c k
    split at e
    · rename_i hnr
      split at e
      · rename_i x hx
        obtain ⟨b, off, us, rfl, hpr, hce⟩ := ha.c
        have hsub := CRs.take σ.size _ _ (CRs.drop c _ _ (CRs.of_PR (base := w0.heap.size) (h := h) (g := g) (Zp := Zp) a' y us hpr))
        have hpr2 := takeAll_PR hnr hsub hx
        have hcell : ∀ j u, ((us.drop c).take σ.size)[j]? = some u → w.cell? ⟨b, off + c + j, none⟩ = some u ∧ All w b (off + c + j) := fun j u hj => by
          have h1 := hce _ _ (getElem?_sub us c σ.size j u hj)
          rw [Nat.add_assoc]
          exact ⟨h1.1, World.block_lt_of_cell? w _ h1.1⟩
        refine ⟨x, h, g, L, e, R, Le.refl _ _ _ _, rfl, b, off + c, _, rfl, ?_, hcell⟩
        cases mark with
        | true => exact PR.mono (Keeps.refl _ _) (keeps_zp R) _ _ _ hpr2
        | false => exact PR.mono (keeps_all R) (keeps_zp R) _ _ _ hpr2
      · exact (eval_fail e).elim
    · exact (eval_fail e).elim
  · rename_i gg cs _ _
    split at e
    · rename_i hc
      simp only [Bool.and_eq_true] at hc
      have hgg := toBeq hc.1
      obtain ⟨vs, hcs, h1, h2⟩ := VR.list ha
      cases mark with
      | true =>
        obtain ⟨cs', h3, g3, L3, e, R3, Le3, hg3, hcs3⟩ := freezeCs_true _ _ h g _ _ _ R hcs e
        split at e
        · rename_i x hx
          have hpr := takeAll_PR hc.2 hcs3 hx
          exact ⟨x, h3, g3, L3, e, R3, Le3, hg3, VT.list hgg h1 h2 (PR.mono (Keeps.refl _ _) (keeps_zp R3) _ _ _ hpr)⟩
        · exact (eval_fail e).elim
      | false =>
        obtain ⟨cs', L1, e, hcs1⟩ := freezeCs_false R _ _ _ _ _ hcs e
        split at e
        · rename_i x hx
          have hpr := takeAll_PR hc.2 hcs1 hx
          exact ⟨x, h, g, L1, e, R, Le.refl _ _ _ _, rfl, VT.list hgg h1 h2 (PR.mono (keeps_rows R) (keeps_zp R) _ _ _ hpr)⟩
        · exact (eval_fail e).elim
    · exact (eval_fail e).elim
  · exact (eval_fail e).elim

theorem argsM_sim (mark : Bool) : ∀ (ps : List Ty) (as : List A) (vs : List Value) (h : Heap) (g : G) (L : Log) (k : (tup ps).den → HM) (res : A × Heap × Log), HR w0 Z0 Zp h g w →
    PRL (fun b es => ∃ u, es = [u] ∧ AR w w0.heap.size Zp h g b u) as vs → (argsM mark ps as k).eval next h L = some res →
    ∃ x h1 g1 L1, (k x).eval next h1 L1 = some res ∧ HR w0 Z0 Zp h1 g1 w ∧ Le Zp h g w h1 g1 w ∧ g1.al = g.al ∧ ArgsR w (if mark = true then g1.Z else All w) (All w) ps x vs
  | [], as, vs, h, g, L, k, res, R, hv, e => by
    cases as with
    | nil => exact ⟨(), h, g, L, e, R, Le.refl _ _ _ _, rfl, hv⟩
    | cons _ _ => exact (eval_fail e).elim
  | [τ], as, vs, h, g, L, k, res, R, hv, e => by
    cases as with
    | nil => exact (eval_fail e).elim
    | cons a as =>
      cases as with
      | cons _ _ => exact (eval_fail e).elim
      | nil =>
        obtain ⟨es, rest, e1, ⟨u, e2, hu⟩, e3⟩ := hv
        simp only [PRL] at e3
        subst e3; subst e2
        obtain ⟨x, h1, g1, L1, e4, R1, Le1, hg1, hx⟩ := argM_sim mark R hu e
        exact ⟨x, h1, g1, L1, e4, R1, Le1, hg1, u, by simpa using e1, hx⟩
  | τ :: σ :: ps, as, vs, h, g, L, k, res, R, hv, e => by
    cases as with
    | nil => exact (eval_fail e).elim
    | cons a as =>
      obtain ⟨es, rest, e1, ⟨u, e2, hu⟩, e3⟩ := hv
      subst e2
      obtain ⟨x, h1, g1, L1, e4, R1, Le1, hg1, hx⟩ := argM_sim mark R hu e
      obtain ⟨y, h2, g2, L2, e5, R2, Le2, hg2, hy⟩ := argsM_sim mark (σ :: ps) as rest h1 g1 L1 _ res R1 (PRL.mono (fun b es ⟨u, e, hu⟩ => ⟨u, e, AR.mono Le1 _ _ hu⟩) _ _ e3) e4
      refine ⟨(x, y), h2, g2, L2, e5, R2, Le1.trans Le2, hg2.trans hg1, u, rest, by simpa using e1, ?_, hy⟩
      cases mark with
      | true => exact VT.mono Le2.z (Keeps.refl _ _) hx
      | false => exact hx

theorem capsA_AR {ids : List Nat} {caps : Array Value} (hp : PRL (fun o es => g.al o ∧ ∃ u, es = [u] ∧ isPtr u ∧ (look .dead o h ≠ .dead → ∃ b, g.hm o = some b ∧ u = .pointer (some ⟨b, 0, none⟩))) ids caps.toList) :
    PRL (fun b es => ∃ u, es = [u] ∧ AR w base Zp h g b u) (capsA ids) caps.toList := by
  have : ∀ (ids : List Nat) (vs : List Value), PRL (fun o es => g.al o ∧ ∃ u, es = [u] ∧ isPtr u ∧ (look .dead o h ≠ .dead → ∃ b, g.hm o = some b ∧ u = .pointer (some ⟨b, 0, none⟩))) ids vs →
      PRL (fun b es => ∃ u, es = [u] ∧ AR w base Zp h g b u) (ids.map fun o => A.v false [.ptr o 0]) vs := by
    intro ids
    induction ids with
    | nil => intro vs h; exact h
    | cons o ids ih =>
      intro vs hv
      obtain ⟨es, rest, e1, ⟨hal, u, e2, hpt, hd⟩, e3⟩ := hv
      exact ⟨es, rest, e1, ⟨u, e2, AR.ofC ⟨hal, hpt, hd⟩⟩, ih rest e3⟩
  exact this ids _ hp

theorem callFunc_run {f : FuncId} {fn : Func} (hfn : P.funcs[f]? = some fn) (hname : (fn.name == "runtime.NumGoroutine") = false) (hbody : fn.body.isNone = false) (args : Array Value) : (callFunc f args).run P w = .ok (.enter f args) w := by
  have hn : ¬ fn.name = "runtime.NumGoroutine" := by simpa using hname
  have hb : ¬ fn.body = none := by intro h; rw [h] at hbody; cases hbody
  simp [callFunc, program, Sem.run, hfn, hn, hb]

/-- behind a call that handed back a slice of its own -/
theorem HR.calledO (R : HR w0 Z0 Zp h g w) (he : w.Extends w') {new : Nat} (hn : ¬ g.al new) {size len : Nat} {ob : Option Nat} {v : Value} (ho : OwnR w w' size len ob v) :
    let g' : G := { al := fun o => g.al o ∨ o = new, Z := ZnewO g.Z w w' ob (len * size), hm := upd g.hm new ob, lo := upd g.lo new (len * size) }
    HR w0 Z0 Zp ((new, .tok) :: h) g' w' ∧ Le Zp h g w ((new, .tok) :: h) g' w' ∧ TokR w' w0.heap.size g' new size len v := by
  intro g'
  have hsz := he.size
  have lk : ∀ o, o ≠ new → look .dead o ((new, Ob.tok) :: h) = look .dead o h := fun o hne => by rw [look_cons, if_neg (Ne.symm hne)]
  have lkn : look .dead new ((new, Ob.tok) :: h) = .tok := by rw [look_cons, if_pos rfl]
  have hmo : ∀ o, o ≠ new → g'.hm o = g.hm o := fun o hne => upd_other _ _ hne
  have hmn : g'.hm new = ob := upd_same _ _ _
  have hob : ∀ b, ob = some b → w.heap.size ≤ b ∧ b < w'.heap.size := by
    intro b hb
    rcases ho with ⟨h1, _⟩ | ⟨b', cap, cur, e0, h1, _, h3, _, _, _, h7⟩
    · rw [h1] at hb; cases hb
    · rw [h1] at hb; cases hb
      exact ⟨h7, (Array.getElem?_eq_some_iff.1 h3).1⟩
  have L : Le Zp h g w ((new, .tok) :: h) g' w' := by
    refine ⟨fun o ha => .inl ha, fun c i hz => ⟨.inl hz, he.cell _ (R.zlt c i hz)⟩, R.zpk (fun c hc => he.block c (Nat.lt_of_lt_of_le hc R.base_le)) R.zp, fun o ha => ?_, fun o ha _ => ?_, fun o ha ht => ?_⟩
    · rw [lk o (fun e => hn (e ▸ ha))]; exact Ob.to.refl _
    · exact hmo o (fun e => hn (e ▸ ha))
    · rw [lk o (fun e => hn (e ▸ ha))] at ht
      exact ⟨upd_other _ _ (fun e => hn (e ▸ ha)), fun c hc => he.block c (R.home o c (by rw [ht]; simp) hc).2⟩
  refine ⟨⟨R.ext.trans he, fun o => ?_, fun o ha => ?_, fun o c hd hc => ?_, fun o p c hd hd' hc hc' => ?_, fun o c i hop hc hz => ?_, fun o c i ht hc hz => ?_, fun c i hz => ?_, fun c i hc hz => ?_, fun c i hz => .inl (R.z0 c i hz), R.zp⟩, L, ?_⟩
  · by_cases hne : o = new
    · subst hne; rw [lkn]; trivial
    · rw [lk o hne]; exact ObR.mono L (.inr (hmo o hne)) (fun hd c hc => he.block c (R.home o c hd hc).2) (R.ob o)
  · have hne : o ≠ new := fun e => ha (.inr e)
    rw [lk o hne]; exact R.dead o fun h => ha (.inl h)
  · by_cases hne : o = new
    · subst hne; rw [hmn] at hc
      have := hob c hc; have := R.base_le; omega
    · rw [lk o hne] at hd; rw [hmo o hne] at hc
      have := R.home o c hd hc; exact ⟨this.1, by omega⟩
  · by_cases h1 : o = new
    · by_cases h2 : p = new
      · rw [h1, h2]
      · subst h1; rw [hmn] at hc
        rw [lk p h2] at hd'; rw [hmo p h2] at hc'
        have := hob c hc; have := R.home p c hd' hc'; omega
    · by_cases h2 : p = new
      · subst h2; rw [hmn] at hc'
        rw [lk o h1] at hd; rw [hmo o h1] at hc
        have := hob c hc'; have := R.home o c hd hc; omega
      · rw [lk o h1] at hd; rw [hmo o h1] at hc; rw [lk p h2] at hd'; rw [hmo p h2] at hc'
        exact R.dist o p c hd hd' hc hc'
  · by_cases h1 : o = new
    · subst h1; rw [lkn] at hop; simp [Ob.open?] at hop
    · rw [lk o h1] at hop; rw [hmo o h1] at hc
      have hal : look .dead o h ≠ .dead := by intro hd; rw [hd] at hop; simp [Ob.open?] at hop
      rcases hz with hz | ⟨e, _⟩
      · exact R.excl o c i hop hc hz
      · have := R.home o c hal hc; omega
  · by_cases h1 : o = new
    · subst h1; rw [hmn] at hc
      show i < upd g.lo o (len * size) o
      rw [upd_same]
      rcases hz with hz | ⟨_, _, hz⟩
      · have := hob c hc; have := R.zlt c i hz; omega
      · exact hz hc
    · rw [lk o h1] at ht; rw [hmo o h1] at hc
      show i < upd g.lo new (len * size) o
      rw [upd_other _ _ h1]
      rcases hz with hz | ⟨e, _⟩
      · exact R.excT o c i ht hc hz
      · have := R.home o c (by rw [ht]; simp) hc; omega
  · rcases hz with hz | ⟨_, h2, _⟩
    · have := R.zlt c i hz; omega
    · exact h2
  · rcases hz with hz | ⟨h1, _⟩
    · exact R.zold c i hc hz
    · have := R.base_le; omega
  · have hlo : g'.lo new = len * size := upd_same _ _ _
    rcases ho with ⟨h1, h2, h3⟩ | ⟨b, cap, cur, e0, h1, h2, h3, h4, h5, h6, h7⟩
    · exact .inl ⟨hmn.trans h1, h2, h3⟩
    · have := R.base_le
      exact .inr ⟨b, cap, cur, e0, hmn.trans h1, h2, h3, h4, h5, h6, by omega, hlo⟩

/-- A CALL OF A FUNCTION. -/
theorem call_sim (hS : ∀ f E, lookO f X.calls = some E → PSound P f E) (hO : ∀ f E, lookO f X.owns = some E → OSound P f E) (R : HR w0 Z0 Zp h g w) (hn : ¬ g.al new) {env : Env} {a : Act} (he : ∀ t, AR w w0.heap.size Zp h g (look undefA t env) (a.tmps.getD t undef)) {o : Oper} {c : Call} {fo : Operand} (ho : o.op = .call c) (hc : c.callee = .value fo)
    (e : (aop X new (rho env) o.op).eval next h L = some (r, h', L')) :
    ∃ f args, (execOp a.eval o).run P w = .ok (.enter f args) w ∧ Calls P f args w fun e w' => ∃ v g', e = .returned v ∧ HR w0 Z0 Zp h' g' w' ∧ Le Zp h g w h' g' w' ∧ AR w' w0.heap.size Zp h' g' r v ∧ ∀ o, g'.al o → g.al o ∨ o = new := by
  rw [ho] at e
  simp only [aop, hc] at e
  have hf := rho_AR he fo
  split at e
  · rename_i f ids hfr
    rw [hfr] at hf
    obtain ⟨caps, hfv, hcaps⟩ := hf.c
    have hargs : PRL (fun b es => ∃ u, es = [u] ∧ AR w w0.heap.size Zp h g b u) (c.args.toList.map (rho env) ++ capsA ids) (c.args.toList.map a.eval ++ caps.toList) := PRL.app _ _ _ _ (args_AR he _) (capsA_AR hcaps)
    have hae : (c.args.toList.map a.eval ++ caps.toList).toArray = c.args.map a.eval ++ caps := by
      apply Array.ext'; simp
    have hrun : ∀ fn, P.funcs[f]? = some fn → (fn.name == "runtime.NumGoroutine") = false → fn.body.isNone = false → (execOp a.eval o).run P w = .ok (.enter f (c.args.map a.eval ++ caps)) w := by
      intro fn hfn hname hbody
      simp only [execOp, ho, resolve, hc, hfv, Deferred.ofValue, Sem.run_bind, Sem.run_pure, Result.andThen_ok, invoke]
      simpa using callFunc_run hfn hname hbody (c.args.map a.eval ++ caps)
    unfold callF at e
    split at e
    · rename_i E hE
      have S := hO f E hE
      obtain ⟨fn, hfn, hname, hbody⟩ := S.fn
      obtain ⟨x, h1, g1, L1, e, R1, Le1, hg1, hx⟩ := argsM_sim _ _ _ _ h g L _ _ R hargs e
      obtain ⟨res, hres, e⟩ := eval_opt e
      have e := eval_set e
      cases eval_ret e
      refine ⟨f, (c.args.map a.eval ++ caps), hrun fn hfn hname hbody, ?_⟩
      have hcall := S.calls w g1.Z (All w) x res _ R1.zlt (fun b i hz => hz) hx hres
      rw [hae] at hcall
      refine hcall.mono fun e w' ⟨v, ob, he1, hext, hr, hown⟩ => ?_
      obtain ⟨R2, Le2, hT⟩ := R1.calledO hext (by rw [hg1]; exact hn) hown
      refine ⟨v, _, he1, R2, Le1.trans Le2, ?_, fun o ho => ?_⟩
      · refine AR.ofC ⟨PR.noRef (.sl E.e) _ _ (by simpa [Ty.noRef] using S.nr) hr, .inr rfl, fun _ => hT⟩
      · rcases ho with ho | ho
        · exact .inl (hg1 ▸ ho)
        · exact .inr ho
    · split at e
      · rename_i E hE
        have S := hS f E hE
        obtain ⟨fn, hfn, hname, hbody⟩ := S.fn
        obtain ⟨x, h1, g1, L1, e, R1, Le1, hg1, hx⟩ := argsM_sim _ _ _ _ h g L _ _ R hargs e
        obtain ⟨res, hres, e⟩ := eval_opt e
        cases eval_ret e
        refine ⟨f, (c.args.map a.eval ++ caps), hrun fn hfn hname hbody, ?_⟩
        have hz1 : ∀ b i, (if (!E.rs.all Ty.flat) = true then g1.Z else All w) b i → b < w.heap.size := by
          intro b i hz
          split at hz
          · exact R1.zlt b i hz
          · exact hz
        have hcall := S.calls w _ (All w) x res _ hz1 (fun b i hz => hz) hx hres
        rw [hae] at hcall
        refine hcall.mono fun e w' ⟨v, he1, hext, hr⟩ => ?_
        obtain ⟨R2, Le2⟩ := R1.called hext
        refine ⟨v, _, he1, R2, Le1.trans Le2, ?_, fun o ho => .inl (hg1 ▸ ho)⟩
        refine encRes_AR _ _ _ ?_
        cases hfl : E.rs.all Ty.flat with
        | true => exact ResR.map (p := Ty.flat) (fun τ x v hp hh => VT.flat hp hh) _ _ _ hfl hr
        | false =>
          simp only [hfl, Bool.not_false, if_true] at hr
          exact ResR.map (p := Ty.noRef) (fun τ x v hp hh => VT.noRef hp hh) _ _ _ S.nr hr
      · exact (eval_fail e).elim
  · exact (eval_fail e).elim

end
end Go.Am

/- The abstract machine: a region's operations, straight; what they lean on. -/
namespace Go.Am
open Go

def opE (X : Cx) (new : Nat) (o : Oper) (s : St) : Option (St × Log) :=
  match (aop X new (rho s.env) o.op).eval s.next s.heap [] with
  | some (a, h, L) => some ({ s with env := putE s.env o.dst a, heap := h }, L)
  | none => none

def stepE (X : Cx) (ops : List Oper) (new : Nat) (o : Oper) (s : St) : Option (St × Log) :=
  match dstOK X o.dst with
  | false => none
  | true => match o.guard with
    | none => opE X new o s
    | some (j, want) => match dstOf ops j with
      | some g => match look undefA g s.env with
        | .v false [.bool b] => match b == want with
          | true => opE X new o { s with env := (g, .v false [.bool b]) :: s.env }
          | false => some ({ s with env := putE ((g, .v false [.bool b]) :: s.env) o.dst skipA }, [])
        | .tup [] => some ({ s with env := putE s.env o.dst skipA }, [])
        | _ => none
      | none => none

def opsE (X : Cx) (ops : List Oper) : Nat → List Oper → St → List Log → Option (St × List Log)
  | _, [], s, Ls => some (s, Ls)
  | new, o :: r, s, Ls => match stepE X ops new o s with
    | some (s, L) => opsE X ops (new + 1) r s (L :: Ls)
    | none => none

theorem opK_eq {R : Type} (X : Cx) (new : Nat) (o : Oper) (s : St) (K : St → Log → Option R) : opK X new o s K = (opE X new o s).bind fun r => K r.1 r.2 := by
  unfold opK opE
  rw [HM.run_eq]
  cases (aop X new (rho s.env) o.op).eval s.next s.heap [] <;> rfl

theorem opsK_eq {R : Type} (X : Cx) (ops : List Oper) (K : St → List Log → Option R) : ∀ (l : List Oper) (new : Nat) (s : St) (Ls : List Log), opsK X ops K new l s Ls = (opsE X ops new l s Ls).bind fun r => K r.1 r.2
  | [], _, _, _ => rfl
  | o :: r, new, s, Ls => by
    unfold opsK opsE stepE
    cases dstOK X o.dst with
    | false => rfl
    | true =>
      simp only
      cases hg : o.guard with
      | none =>
        simp only
        rw [opK_eq]
        cases opE X new o s with
        | none => rfl
        | some q => exact opsK_eq X ops K r _ _ _
      | some jw =>
        obtain ⟨j, want⟩ := jw
        simp only
        cases hd : dstOf ops j with
        | none => rfl
        | some g =>
          simp only
          generalize look undefA g s.env = q
          split
          · rename_i b
            have e1 : (true == true) = true := rfl
            have e2 : (false == false) = true := rfl
            have e3 : (true == false) = false := rfl
            have e4 : (false == true) = false := rfl
            cases want <;> cases b <;> simp only [brk, opK_eq, e1, e2, e3, e4]
            · cases opE X new o { s with env := (g, .v false [.bool false]) :: s.env } with
              | none => rfl
              | some q => exact opsK_eq X ops K r _ _ _
            · exact opsK_eq X ops K r _ _ _
            · exact opsK_eq X ops K r _ _ _
            · cases opE X new o { s with env := (g, .v false [.bool true]) :: s.env } with
              | none => rfl
              | some q => exact opsK_eq X ops K r _ _ _
          · exact opsK_eq X ops K r _ _ _
          · rename_i h1 h2
            split
            · rename_i heq
              split at heq
              · rename_i b; exact absurd rfl (h1 b)
              · exact absurd rfl h2
              · cases heq
            · rfl

/-! ### locality -/

theorem eval_local (next : Nat) : ∀ (m : HM) (h : Heap) (L : Log) (a : A) (h' : Heap) (L' : Log), m.eval next h L = some (a, h', L') →
    ∃ M, L' = M ++ L ∧ (∀ o, (o, true) ∉ M → look .dead o h' = look .dead o h) ∧
      ∀ (h2 : Heap) (L2 : Log), (∀ p ∈ M, look .dead p.1 h2 = look .dead p.1 h) → ∃ h2', m.eval next h2 L2 = some (a, h2', M ++ L2) ∧
        (∀ o, (o, true) ∈ M → look .dead o h2' = look .dead o h') ∧ ∀ o, (o, true) ∉ M → look .dead o h2' = look .dead o h2
  | .ret a, h, L, _, _, _, e => by
    simp [HM.eval] at e
    obtain ⟨rfl, rfl, rfl⟩ := e
    exact ⟨[], rfl, fun _ _ => rfl, fun h2 L2 _ => ⟨h2, rfl, (fun o ho => by cases ho), fun _ _ => rfl⟩⟩
  | .fail, _, _, _, _, _, e => by simp [HM.eval] at e
  | .get o k, h, L, a, h', L', e => by
    obtain ⟨M, h1, h2, h3⟩ := eval_local next _ _ _ a h' L' (eval_get e)
    refine ⟨M ++ [(o, false)], by simp [h1], fun p hp => h2 p (fun hm => hp (by simp [hm])), fun g2 L2 hg => ?_⟩
    have ho : look .dead o g2 = look .dead o h := hg (o, false) (by simp)
    obtain ⟨g2', h4, h5, h6⟩ := h3 g2 ((o, false) :: L2) (fun p hp => hg p (by simp [hp]))
    refine ⟨g2', ?_, fun p hp => h5 p (by simpa using hp), fun p hp => h6 p (by simpa using hp)⟩
    simp only [HM.eval, ho, h4, List.append_assoc, List.singleton_append]
  | .set o x k, h, L, a, h', L', e => by
    have hlt : Nat.blt o next = true := by
      simp only [HM.eval] at e
      split at e
      · assumption
      · cases e
    obtain ⟨M, h1, h2, h3⟩ := eval_local next _ _ _ a h' L' (eval_set e)
    refine ⟨M ++ [(o, true)], by simp [h1], fun p hp => ?_, fun g2 L2 hg => ?_⟩
    · have hne : o ≠ p := fun hh => hp (by simp [hh])
      rw [h2 p (fun hm => hp (by simp [hm])), look_cons, if_neg hne]
    · obtain ⟨g2', h4, h5, h6⟩ := h3 ((o, x) :: g2) ((o, true) :: L2) (fun p hp => by
        rw [look_cons, look_cons]
        split
        · rfl
        · exact hg p (by simp [hp]))
      refine ⟨g2', ?_, fun p hp => ?_, fun p hp => ?_⟩
      · simp only [HM.eval, hlt, h4, List.append_assoc, List.singleton_append]
      · by_cases hm : (p, true) ∈ M
        · exact h5 p hm
        · have hpo : p = o := by simpa [hm] using hp
          subst hpo
          rw [h6 p hm, h2 p hm, look_cons, look_cons, if_pos rfl, if_pos rfl]
      · have hne : o ≠ p := fun hh => hp (by simp [hh])
        rw [h6 p (fun hm => hp (by simp [hm])), look_cons, if_neg hne]
  | .opt x k, h, L, a, h', L', e => by
    obtain ⟨b, hx, e⟩ := eval_opt e
    obtain ⟨M, h1, h2, h3⟩ := eval_local next _ _ _ a h' L' e
    refine ⟨M, h1, h2, fun g2 L2 hg => ?_⟩
    obtain ⟨g2', h4, h5⟩ := h3 g2 L2 hg
    exact ⟨g2', by simp only [HM.eval, hx, Option.bind_some, h4], h5⟩
  | .br b x y, h, L, a, h', L', e => by
    cases b with
    | true =>
      obtain ⟨M, h1, h2, h3⟩ := eval_local next x h L a h' L' e
      exact ⟨M, h1, h2, h3⟩
    | false =>
      obtain ⟨M, h1, h2, h3⟩ := eval_local next y h L a h' L' e
      exact ⟨M, h1, h2, h3⟩

def tmpOf : Operand → Option Tmp
  | .tmp t => some t
  | _ => none

theorem rho_congr {e1 e2 : Env} {x : Operand} (h : ∀ t, tmpOf x = some t → look undefA t e1 = look undefA t e2) : rho e1 x = rho e2 x := by
  cases x with
  | tmp t => exact h t rfl
  | _ => rfl

theorem array_map_congr {α β : Type} {f g : α → β} {xs : Array α} (h : ∀ x ∈ xs.toList, f x = g x) : xs.toList.map f = xs.toList.map g := List.map_congr_left h

/-- the operation's program hangs on its operands alone -/
theorem aop_congr (X : Cx) (new : Nat) {e1 e2 : Env} (o : Op) (h : ∀ x ∈ o.operands, rho e1 x = rho e2 x) : aop X new (rho e1) o = aop X new (rho e2) o := by
  cases o <;> simp only [Op.operands] at h <;> simp only [aop]
  case move x => rw [h x (by simp)]
  case assign x => rw [h x (by simp)]
  case pick c x y => rw [h c (by simp), h x (by simp), h y (by simp)]
  case box t x => rw [h x (by simp)]
  case build t parts =>
    have : (parts.toList.map fun (i, x) => (i, rho e1 x)) = (parts.toList.map fun (i, x) => (i, rho e2 x)) := by
      apply List.map_congr_left
      rintro ⟨i, x⟩ hx
      simp only [Prod.mk.injEq, true_and]
      exact h x (by simp; exact ⟨i, by simpa using hx⟩)
    rw [this]
  case buildSlice t n parts =>
    have : (parts.toList.map fun (i, x) => (i, rho e1 x)) = (parts.toList.map fun (i, x) => (i, rho e2 x)) := by
      apply List.map_congr_left
      rintro ⟨i, x⟩ hx
      simp only [Prod.mk.injEq, true_and]
      exact h x (by simp; exact ⟨i, by simpa using hx⟩)
    rw [this]
  case load t x => rw [h x (by simp)]
  case store t x y => rw [h x (by simp), h y (by simp)]
  case nilCheck x => rw [h x (by simp)]
  case binOp op t x y ty => rw [h x (by simp), h y (by simp)]
  case unOp op t x => rw [h x (by simp)]
  case convert s d x => rw [h x (by simp)]
  case makeFunc fn first cap =>
    cases fn <;> simp only
    have : cap.toList.map (rho e1) = cap.toList.map (rho e2) := List.map_congr_left fun x hx => h x (by simp; exact .inr (by simpa using hx))
    rw [this]
  case makeSlice t l c => rw [h l (by simp), h c (by simp)]
  case slice t x lo hi mx =>
    have h1 : lo.map (rho e1) = lo.map (rho e2) := by cases lo with | none => rfl | some y => simp [h y (by simp)]
    have h2 : hi.map (rho e1) = hi.map (rho e2) := by cases hi with | none => rfl | some y => simp [h y (by simp)]
    have h3 : mx.map (rho e1) = mx.map (rho e2) := by cases mx with | none => rfl | some y => simp [h y (by simp)]
    rw [h x (by simp), h1, h2, h3]
  case fieldAddr s x j => rw [h x (by simp)]
  case field s x j => rw [h x (by simp)]
  case indexAddr t x i => rw [h x (by simp), h i (by simp)]
  case index t x i => rw [h x (by simp), h i (by simp)]
  case extract x j => rw [h x (by simp)]
  case call c =>
    have : c.args.toList.map (rho e1) = c.args.toList.map (rho e2) := List.map_congr_left fun x hx => h x (by simp [Call.operands]; exact .inr (by simpa using hx))
    rw [this]
    cases hc : c.callee with
    | value f => simp only; rw [h f (by simp [Call.operands, hc])]
    | _ => rfl

theorem mem_uses {ops : List Oper} {o : Oper} {x : Operand} (hx : x ∈ o.op.operands) {t : Tmp} (ht : tmpOf x = some t) : t ∈ uses ops o := by
  unfold uses
  refine List.mem_append.2 (.inl (List.mem_filterMap.2 ⟨x, by simpa using hx, ?_⟩))
  cases x <;> simp [tmpOf] at ht <;> simp [ht]

theorem look_putE {env : Env} {dst : Option Tmp} {a : A} {t : Tmp} : look undefA t (putE env dst a) = if dst = some t then a else look undefA t env := by
  cases dst with
  | none => simp [putE]
  | some d => simp only [putE, look_cons, Option.some.injEq]

theorem look_same {env : Env} {g : Tmp} {x : A} (h : look undefA g env = x) (t : Tmp) : look undefA t ((g, x) :: env) = look undefA t env := by
  rw [look_cons]
  split
  · rename_i he; subst he; exact h.symm
  · rfl

/-- two states that are the same to whoever looks -/
structure Same (s t : St) : Prop where
  next : s.next = t.next
  env : ∀ x, look undefA x s.env = look undefA x t.env
  heap : ∀ o, look .dead o s.heap = look .dead o t.heap

/-- ONE OPERATION LEANS ON WHAT IT USES ALONE. -/
theorem stepE_local {X : Cx} {ops : List Oper} {new : Nat} {o : Oper} {s s' : St} {L : Log} (e : stepE X ops new o s = some (s', L)) :
    s'.next = s.next ∧ (∀ t, o.dst ≠ some t → look undefA t s'.env = look undefA t s.env) ∧ (∀ p, (p, true) ∉ L → look .dead p s'.heap = look .dead p s.heap) ∧
    ∀ s2 : St, s2.next = s.next → (∀ t ∈ uses ops o, look undefA t s2.env = look undefA t s.env) → (∀ p ∈ L, look .dead p.1 s2.heap = look .dead p.1 s.heap) →
      ∃ s2', stepE X ops new o s2 = some (s2', L) ∧ s2'.next = s.next ∧ (∀ t, o.dst = some t → look undefA t s2'.env = look undefA t s'.env) ∧ (∀ t, o.dst ≠ some t → look undefA t s2'.env = look undefA t s2.env) ∧
        (∀ p, (p, true) ∈ L → look .dead p s2'.heap = look .dead p s'.heap) ∧ ∀ p, (p, true) ∉ L → look .dead p s2'.heap = look .dead p s2.heap := by
  have opl : ∀ {s s' : St} {L : Log}, opE X new o s = some (s', L) → s'.next = s.next ∧ (∀ t, o.dst ≠ some t → look undefA t s'.env = look undefA t s.env) ∧ (∀ p, (p, true) ∉ L → look .dead p s'.heap = look .dead p s.heap) ∧
      ∀ s2 : St, s2.next = s.next → (∀ t ∈ uses ops o, look undefA t s2.env = look undefA t s.env) → (∀ p ∈ L, look .dead p.1 s2.heap = look .dead p.1 s.heap) →
      ∃ s2', opE X new o s2 = some (s2', L) ∧ s2'.next = s.next ∧ (∀ t, o.dst = some t → look undefA t s2'.env = look undefA t s'.env) ∧ (∀ t, o.dst ≠ some t → look undefA t s2'.env = look undefA t s2.env) ∧
        (∀ p, (p, true) ∈ L → look .dead p s2'.heap = look .dead p s'.heap) ∧ ∀ p, (p, true) ∉ L → look .dead p s2'.heap = look .dead p s2.heap := by
    intro s s' L e
    unfold opE at e
    split at e
    · rename_i a h M he
      cases e
      obtain ⟨M', h1, h2, h3⟩ := eval_local _ _ _ _ _ _ _ he
      simp only [List.append_nil] at h1
      subst h1
      refine ⟨rfl, fun t ht => by simp only [look_putE, if_neg ht], h2, fun s2 hn hu hL => ?_⟩
      obtain ⟨h2', h4, h5, h6⟩ := h3 s2.heap [] hL
      have hc : aop X new (rho s2.env) o.op = aop X new (rho s.env) o.op := aop_congr X new o.op fun x hx => rho_congr fun t ht => hu t (mem_uses hx ht)
      refine ⟨{ s2 with env := putE s2.env o.dst a, heap := h2' }, ?_, hn, fun t ht => by simp only [look_putE, if_pos ht], fun t ht => by simp only [look_putE, if_neg ht], h5, h6⟩
      unfold opE
      rw [hc, hn, h4]
      simp
    · cases e
  have guse : ∀ {j : Nat} {want : Bool} {g : Tmp}, o.guard = some (j, want) → dstOf ops j = some g → g ∈ uses ops o := by
    intro j want g h1 h2
    unfold uses
    rw [h1]
    simp [h2]
  unfold stepE at e
  split at e
  · cases e
  · rename_i hdst
    split at e
    · rename_i hg
      obtain ⟨h1, h2, h3, h4⟩ := opl e
      refine ⟨h1, h2, h3, fun s2 a b c => ?_⟩
      obtain ⟨s2', h5, h6⟩ := h4 s2 a b c
      exact ⟨s2', by unfold stepE; rw [hdst, hg]; exact h5, h6⟩
    · rename_i j want hg
      split at e
      · rename_i gt hgt
        have hmem := guse hg hgt
        split at e
        · rename_i b hb
          split at e
          · rename_i hbw
            obtain ⟨h1, h2, h3, h4⟩ := opl e
            refine ⟨h1, fun t ht => (h2 t ht).trans (look_same hb t), h3, fun s2 ha hu hc => ?_⟩
            have hb2 : look undefA gt s2.env = .v false [.bool b] := (hu gt hmem).trans hb
            obtain ⟨s2', h5, h6, h7, h8, h9, h10⟩ := h4 { s2 with env := (gt, .v false [.bool b]) :: s2.env } ha (fun t ht => by
              simp only
              rw [look_same hb2 t, look_same hb t]; exact hu t ht) hc
            refine ⟨s2', ?_, h6, h7, fun t ht => (h8 t ht).trans (look_same hb2 t), h9, h10⟩
            unfold stepE
            simp only [hdst, hg, hgt, hb2, hbw, h5]
          · rename_i hbw
            cases e
            refine ⟨rfl, fun t ht => by simp only [look_putE, if_neg ht]; exact look_same hb t, fun p _ => rfl, fun s2 ha hu hc => ?_⟩
            have hb2 : look undefA gt s2.env = .v false [.bool b] := (hu gt hmem).trans hb
            refine ⟨{ s2 with env := putE ((gt, .v false [.bool b]) :: s2.env) o.dst skipA }, ?_, ha, fun t ht => by simp only [look_putE, if_pos ht], fun t ht => by simp only [look_putE, if_neg ht]; exact look_same hb2 t, (fun p hp => by cases hp), fun p _ => rfl⟩
            unfold stepE
            simp only [hdst, hg, hgt, hb2, hbw]
        · rename_i hb
          cases e
          refine ⟨rfl, fun t ht => by simp only [look_putE, if_neg ht], fun p _ => rfl, fun s2 ha hu hc => ?_⟩
          have hb2 : look undefA gt s2.env = .tup [] := (hu gt hmem).trans hb
          refine ⟨{ s2 with env := putE s2.env o.dst skipA }, ?_, ha, fun t ht => by simp only [look_putE, if_pos ht], fun t ht => by simp only [look_putE, if_neg ht], (fun p hp => by cases hp), fun p _ => rfl⟩
          unfold stepE
          simp only [hdst, hg, hgt, hb2]
        · cases e
      · cases e

end Go.Am

/- The abstract machine: regions. -/
namespace Go.Am
open Go

/-- a state beside a frame and a world -/
structure SR (w0 : World) (Z0 Zp : Zone) (X : Cx) (s : St) (g : G) (a : Act) (w : World) : Prop where
  env : ∀ t, AR w w0.heap.size Zp s.heap g (look undefA t s.env) (a.tmps.getD t undef)
  hr : HR w0 Z0 Zp s.heap g w
  nt : X.nt ≤ a.tmps.size
  defers : a.defers = []

section
variable {P : Program} {w0 w w' : World} {Z0 Zp : Zone} {g : G} {X : Cx} {a : Act} {s s' : St} {ops : Array Oper} {Q : Exit → Act → World → Prop} {K : Act → World → Prop}

/-- what the context is good for -/
structure CxOK (P : Program) (X : Cx) : Prop where
  tt : XOK P X.tt
  calls : ∀ f E, lookO f X.calls = some E → PSound P f E
  owns : ∀ f E, lookO f X.owns = some E → OSound P f E

theorem env_put {base : Nat} {h : Heap} {env : Env} (he : ∀ t, AR w base Zp h g (look undefA t env) (a.tmps.getD t undef)) {dst : Option Tmp} {x : A} {v : Value} (hx : AR w base Zp h g x v) (hd : ∀ d, dst = some d → d < a.tmps.size) :
    ∀ t, AR w base Zp h g (look undefA t (putE env dst x)) ((a.put dst v).tmps.getD t undef) := by
  intro t
  rw [look_putE]
  cases dst with
  | none => simp only [Act.put]; rw [if_neg (by simp)]; exact he t
  | some d =>
    simp only [Act.put]
    by_cases hdt : d = t
    · subst hdt
      rw [if_pos rfl]
      have hlt := hd d rfl
      have : (a.tmps.setIfInBounds d v).getD d undef = v := by simp [Array.getD, hlt]
      rw [this]; exact hx
    · rw [if_neg (by simpa using hdt)]
      have : (a.tmps.setIfInBounds d v).getD t undef = a.tmps.getD t undef := by
        simp only [Array.getD_eq_getD_getElem?, Array.getElem?_setIfInBounds_ne hdt]
      rw [this]; exact he t

theorem put_size (dst : Option Tmp) (v : Value) : (a.put dst v).tmps.size = a.tmps.size := by cases dst <;> simp [Act.put]
theorem put_defers (dst : Option Tmp) (v : Value) : (a.put dst v).defers = a.defers := by cases dst <;> rfl

theorem op_sim (hX : CxOK P X) {new : Nat} {o : Oper} {L : Log} (S : SR w0 Z0 Zp X s g a w) (hn : ¬ g.al new) (hd : dstOK X o.dst = true) (e : opE X new o s = some (s', L))
    (hK : ∀ a' w' g', SR w0 Z0 Zp X s' g' a' w' → (∀ p, g'.al p → g.al p ∨ p = new) → K a' w') : o.wp P a w K Q := by
  have hdd : ∀ d, o.dst = some d → d < a.tmps.size := by
    intro d hd'
    rw [hd'] at hd
    simp only [dstOK, Nat.blt_eq] at hd
    exact Nat.lt_of_lt_of_le hd S.nt
  unfold opE at e
  split at e
  · rename_i r h L' he
    cases e
    by_cases hc : callsF o.op = false
    · obtain ⟨n, v, w', g', h1, h2, h3, h4, h5, h6⟩ := aop_sim (P := P) hX.tt S.hr hn S.env hc he
      have hput := env_put (a := a) (fun t => AR.mono h4 _ _ (S.env t)) h5 hdd
      have hs : SR w0 Z0 Zp X { s with env := putE s.env o.dst r, heap := h } g' (a.put o.dst v) w' := ⟨hput, h3, by rw [put_size]; exact S.nt, by rw [put_defers]; exact S.defers⟩
      unfold Oper.wp
      rw [h1]
      rcases h2 with rfl | ⟨rfl, rfl⟩
      · exact hK _ _ _ hs h6
      · exact hK _ _ _ hs h6
    · obtain ⟨c, f, hop, hcc⟩ : ∃ c f, o.op = .call c ∧ c.callee = .value f := by
        cases hop : o.op <;> simp [hop, callsF] at hc
        rename_i c
        cases hcc : c.callee <;> simp [hcc] at hc
        exact ⟨c, _, rfl, hcc⟩
      obtain ⟨f, args, h1, h2⟩ := call_sim hX.calls hX.owns S.hr hn S.env hop hcc he
      unfold Oper.wp
      rw [h1]
      refine h2.mono fun e w' ⟨v, g', he1, h3, h4, h5, h6⟩ => ?_
      subst he1
      have hput := env_put (a := a) (fun t => AR.mono h4 _ _ (S.env t)) h5 hdd
      exact hK _ _ _ ⟨hput, h3, by rw [put_size]; exact S.nt, by rw [put_defers]; exact S.defers⟩ h6
  · cases e

theorem dstOf_eq {ops : Array Oper} {j : Nat} {g : Tmp} (h : dstOf ops.toList j = some g) : (ops[j]?).bind (·.dst) = some g := by
  unfold dstOf at h
  rw [Array.getElem?_toList] at h
  cases ho : ops[j]? with
  | none => simp [ho] at h
  | some o => simpa [ho] using h

theorem getD_of_lt {xs : Array Value} {t : Nat} {v : Value} (h : xs.getD t undef = v) (hv : v ≠ undef) : xs[t]? = some v := by
  rw [Array.getD_eq_getD_getElem?] at h
  cases hx : xs[t]? with
  | none => simp [hx] at h; exact absurd h.symm hv
  | some u => simp [hx] at h; rw [h]

/-- ONE OPERATION OF A REGION, guarded or not. -/
theorem step_sim (hX : CxOK P X) {new i : Nat} {o : Oper} {L : Log} (ho : ops[i]? = some o) (S : SR w0 Z0 Zp X s g a w) (hn : ¬ g.al new) (e : stepE X ops.toList new o s = some (s', L))
    (hK : ∀ a' w' g', SR w0 Z0 Zp X s' g' a' w' → (∀ p, g'.al p → g.al p ∨ p = new) → K a' w') : wpOp P ops Q i K a w := by
  unfold wpOp
  simp only [ho]
  unfold stepE at e
  split at e
  · cases e
  · rename_i hd
    have hdd : ∀ d, o.dst = some d → d < a.tmps.size := by
      intro d hd'
      rw [hd'] at hd
      simp only [dstOK, Nat.blt_eq] at hd
      exact Nat.lt_of_lt_of_le hd S.nt
    split at e
    · rename_i hg
      rw [if_pos (by simp [Region.wanted, hg])]
      exact .inl (op_sim hX S hn hd e hK)
    · rename_i j want hg
      split at e
      · rename_i gt hgt
        have hgt' := dstOf_eq hgt
        split at e
        · rename_i b hb
          have hv := S.env gt
          rw [hb] at hv
          have hv := hv.c
          simp only [CR] at hv
          have hgv := getD_of_lt hv (by simp [undef])
          have hy : yielded ops a.tmps j = some b := by simp [yielded, hgt', hgv]
          have hS2 : SR w0 Z0 Zp X { s with env := (gt, .v false [.bool b]) :: s.env } g a w := ⟨fun t => by rw [look_same hb t]; exact S.env t, S.hr, S.nt, S.defers⟩
          split at e
          · rename_i hbw
            have hbw := toBeq hbw
            subst hbw
            rw [if_pos (by simp [Region.wanted, hg, hy])]
            exact .inl (op_sim hX hS2 hn hd e hK)
          · rename_i hbw
            cases e
            have hne : b ≠ want := by intro h; subst h; simp at hbw
            rw [if_neg (by simp [Region.wanted, hg, hy, hne])]
            refine hK _ _ g ⟨?_, S.hr, by rw [put_size]; exact S.nt, by rw [put_defers]; exact S.defers⟩ (fun p hp => .inl hp)
            exact env_put hS2.env AR.skip hdd
        · rename_i hb
          cases e
          have hv := S.env gt
          rw [hb] at hv
          obtain ⟨vs, hv, hp⟩ := hv
          simp only [PRL] at hp
          subst hp
          have hy : yielded ops a.tmps j = none := by
            unfold yielded
            rw [hgt']
            simp only [Option.bind_some]
            rw [Array.getD_eq_getD_getElem?] at hv
            cases hx : a.tmps[gt]? with
            | none => rfl
            | some u => simp [hx] at hv; subst hv; rfl
          rw [if_neg (by simp [Region.wanted, hg, hy])]
          refine hK _ _ g ⟨?_, S.hr, by rw [put_size]; exact S.nt, by rw [put_defers]; exact S.defers⟩ (fun p hp => .inl hp)
          exact env_put S.env AR.skip hdd
        · cases e
      · cases e

/-- a plain region -/
theorem opsE_sim (hX : CxOK P X) : ∀ (n : Nat) (k new : Nat) (l : List Oper) (s : St) (Ls : List Log) (s' : St) (Ls' : List Log) (g : G) (a : Act) (w : World), l.length = n → (∀ j : Nat, l[j]? = ops[k + j]?) → opsE X ops.toList new l s Ls = some (s', Ls') →
    SR w0 Z0 Zp X s g a w → (∀ p, g.al p → p < new) → (∀ a' w' g', SR w0 Z0 Zp X s' g' a' w' → (∀ p, g'.al p → p < new + n) → Q .normal a' w') → wpOps P ops Q (List.range' k n) a w
  | 0, k, new, l, s, Ls, s', Ls', g, a, w, hl, _, e, S, hal, hK => by
    have : l = [] := List.length_eq_zero_iff.1 hl
    subst this
    cases e
    exact hK a w g S (by simpa using hal)
  | n + 1, k, new, l, s, Ls, s', Ls', g, a, w, hl, hops, e, S, hal, hK => by
    cases l with
    | nil => simp at hl
    | cons o l =>
      simp only [opsE] at e
      split at e
      · rename_i s1 L hs1
        rw [List.range'_succ, wpOps_cons]
        refine step_sim hX (by have := hops 0; simpa using this.symm) S (fun h => Nat.lt_irrefl _ (hal new h)) hs1 fun a' w' g' S' hal' => ?_
        refine opsE_sim hX n (k + 1) (new + 1) l s1 _ s' Ls' g' a' w' (by simpa using hl) (fun j => by have := hops (j + 1); simpa [Nat.add_assoc, Nat.add_comm 1 j] using this) e S' (fun p hp => ?_) (fun a2 w2 g2 h2 h3 => hK a2 w2 g2 h2 (fun p hp => by have := h3 p hp; omega))
        rcases hal' p hp with h | h
        · have := hal p h; omega
        · omega
      · cases e

end
end Go.Am
