import Derived.Test.YtfafklfpikjheaaGreatA3
import Derived.Laws.StructEq
import Derived.Laws.BytesArg
import Derived.ChangeKeysEq
import Derived.Laws.Cover3
set_option linter.unusedVariables false
set_option linter.unusedSimpArgs false
/- The abstract machine: structs' literals, appends. -/
namespace Go.Am
open Go

section
variable {P : Program} {w0 w w' : World} {Z0 Zp : Zone} {h h' : Heap} {g : G} {new next base : Nat} {r : A} {L L' : Log} {X : Cx}

theorem foldl_splice (off : Nat) (v : Array Value) (cells : Array Value) (hle : off + v.size ≤ cells.size) :
    (v.zipIdx.foldl (fun cs (x : Value × Nat) => cs.setIfInBounds (off + x.2) x.1) cells).toList = cells.toList.take off ++ v.toList ++ cells.toList.drop (off + v.size) := by
  have e : v.zipIdx.foldl (fun cs (x : Value × Nat) => cs.setIfInBounds (off + x.2) x.1) cells = (v.toList.zipIdx 0).foldl (fun cs (x : Value × Nat) => cs.setIfInBounds (off + x.2) x.1) cells := by
    rw [← Array.foldl_toList, Array.toList_zipIdx]
  rw [e]
  obtain ⟨h1, h2⟩ := Go.Great.foldl_set off v.toList 0 cells
  apply List.ext_getElem?
  intro k
  rw [Array.getElem?_toList, h2 k]
  simp only [Nat.add_zero, Array.length_toList, List.getElem?_append, List.length_append, List.length_take]
  by_cases h3 : k < off
  · rw [if_neg (by omega), if_pos (by omega), if_pos (by omega), List.getElem?_take, if_pos h3, Array.getElem?_toList]
  · by_cases h4 : k < off + v.size
    · rw [if_pos ⟨by omega, h4, by omega⟩, if_pos (by omega), if_neg (by omega)]
      congr 1; omega
    · rw [if_neg (by omega), if_neg (by omega), List.getElem?_drop, Array.getElem?_toList]
      congr 1; omega

theorem fill_sim {base : Nat} {pa pc : Nat → Option (Nat × Nat)} (hp : ∀ i q, pa i = some q → pc i = some q) {env : Env} {a : Act} (he : ∀ t, AR w base Zp h g (look undefA t env) (a.tmps.getD t undef)) :
    ∀ (ps : List (Nat × Operand)) (cs cs' : List C) (cells : Array Value), CRs w base Zp h g cs cells.toList → fillC pa cs (ps.map fun (i, x) => (i, rho env x)) = some cs' →
      ∃ cells', Instr.fill pc cells (ps.map fun (i, x) => (i, a.eval x)) = some cells' ∧ CRs w base Zp h g cs' cells'.toList
  | [], cs, cs', cells, hc, e => by
    cases e
    exact ⟨cells, rfl, hc⟩
  | (i, x) :: ps, cs, cs', cells, hc, e => by
    simp only [List.map_cons] at e ⊢
    have hx := rho_AR he x
    unfold fillC at e
    split at e
    · rename_i heq; cases heq
    · rename_i i' gg nw r' heq
      simp only [List.cons.injEq, Prod.mk.injEq] at heq
      obtain ⟨⟨rfl, hxe⟩, rfl⟩ := heq
      split at e
      · rename_i off size hpl
        split at e
        · rename_i hcc
          simp only [Bool.and_eq_true] at hcc
          have h1 := Nat.eq_of_beq_eq_true hcc.1.1
          have h2 := Nat.le_of_ble_eq_true hcc.1.2
          rw [hxe] at hx
          have hnc := cells_of_VR hcc.2 hx
          have hnl := hnc.length
          have hcl := hc.length
          simp only [Array.length_toList] at hnl hcl
          have hsp := foldl_splice off (a.eval x).cells cells (by omega)
          have hcs2 := putCells_CRs (off := off) hc hnc
          simp only [Array.length_toList] at hcs2
          rw [← hsp] at hcs2
          obtain ⟨cells', e1, e2⟩ := fill_sim hp he ps _ cs' _ hcs2 e
          refine ⟨cells', ?_, e2⟩
          unfold Instr.fill
          rw [hp _ _ hpl]
          simp only
          rw [if_neg (by simp; omega)]
          exact e1
        · cases e
      · cases e
    · rename_i heq
      cases e

theorem places_sim (hX : XOK P X.tt) : ∀ (fs : List Field) (pl : List (Nat × Nat)),
    mapO (fun f : TypeId × Nat => match lookO f.1 X.tt with | some df => some (f.2, df.size) | none => none) (fs.map fun x => (x.type, x.offset)) = some pl →
    fs.mapM (fun f => (P.info? f.type).map fun i => (f.offset, i.size)) = some pl
  | [], pl, e => by simp [mapO] at e; subst e; rfl
  | f :: fs, pl, e => by
    simp only [List.map_cons, mapO] at e
    cases hd : lookO f.type X.tt with
    | none => simp [hd] at e
    | some df =>
      simp only [hd] at e
      split at e
      · rename_i bs hbs
        cases e
        obtain ⟨i, hi, his, _⟩ := (hX.get hd).inf
        have ih := places_sim hX fs bs hbs
        simp [List.mapM_cons, hi, his, ih]
      · cases e

theorem build_struct (hX : XOK P X.tt) (R : HR w0 Z0 Zp h g w) {t : TypeId} {d : TD} (T : TOK P t d) {fs : List (TypeId × Nat)} (hd : d.desc = .struct fs) (hz : d.zero = true) {τ : Ty} (hτ : d.ty = some τ) {pl : List (Nat × Nat)}
    (hpl : mapO (fun f : TypeId × Nat => match lookO f.1 X.tt with | some df => some (f.2, df.size) | none => none) fs = some pl) {parts : Array (Nat × Operand)}
    {env : Env} {a : Act} (he : ∀ t, AR w w0.heap.size Zp h g (look undefA t env) (a.tmps.getD t undef)) {cs : List C} (hf : fillC (fun i => pl[i]?) τ.zcells (parts.toList.map fun (i, x) => (i, rho env x)) = some cs) :
    OpSim P w0 Z0 Zp h g w new (do pure (.value (← Instr.build t (parts.map fun (i, x) => (i, a.eval x))))) (.v true cs) h := by
  obtain ⟨f, hu, hfs⟩ := T.struct hd
  obtain ⟨i, z, hi, _, _, hiz, hzv, _⟩ := T.zeroV hz hτ
  have hzc : CRs w w0.heap.size Zp h g τ.zcells z.cells.toList := by rw [hzv]; exact zcells_CRs τ
  rw [← hfs] at hpl
  have hpm := places_sim hX _ _ hpl
  obtain ⟨cells', e1, e2⟩ := fill_sim (pc := fun i => pl.toArray[i]?) (fun i q hq => by simpa using hq) he parts.toList _ _ z.cells hzc hf
  refine OpSim.pure R (v := .agg cells') ?_ ⟨cells'.toList, by simp, e2⟩
  have hb : P.built t (parts.map fun (i, x) => (i, a.eval x)).toList = some cells' := by
    unfold Program.built
    simp only [hi, hu, hiz, hpm, Array.toList_map]
    exact e1
  simp [run_build w t _ cells' hb]

theorem build_array (R : HR w0 Z0 Zp h g w) {t e : TypeId} {d de : TD} (T : TOK P t d) (Te : TOK P e de) {n : Nat} (hd : d.desc = .array n e) (hz : d.zero = true) {τ : Ty} (hτ : d.ty = some τ) {parts : Array (Nat × Operand)}
    {env : Env} {a : Act} (he : ∀ t, AR w w0.heap.size Zp h g (look undefA t env) (a.tmps.getD t undef)) {cs : List C}
    (hf : fillC (fun i => match Nat.blt i n with | true => some (i * de.size, de.size) | false => none) τ.zcells (parts.toList.map fun (i, x) => (i, rho env x)) = some cs) :
    OpSim P w0 Z0 Zp h g w new (do pure (.value (← Instr.build t (parts.map fun (i, x) => (i, a.eval x))))) (.v true cs) h := by
  obtain ⟨i, z, hi, _, _, hiz, hzv, _⟩ := T.zeroV hz hτ
  obtain ⟨ie, hie, hies, _⟩ := Te.inf
  have hzc : CRs w w0.heap.size Zp h g τ.zcells z.cells.toList := by rw [hzv]; exact zcells_CRs τ
  obtain ⟨cells', e1, e2⟩ := fill_sim (pc := fun i => some (i * ie.size, ie.size)) (fun i q hq => by
    split at hq
    · rw [hies]; exact hq
    · cases hq) he parts.toList _ _ z.cells hzc hf
  refine OpSim.pure R (v := .agg cells') ?_ ⟨cells'.toList, by simp, e2⟩
  have hb : P.built t (parts.map fun (i, x) => (i, a.eval x)).toList = some cells' := by
    unfold Program.built
    simp only [hi, T.array hd, hiz, hie, Array.toList_map]
    exact e1
  simp [run_build w t _ cells' hb]

/-! ### append -/

theorem PR_one {Z : Zone} : ∀ (τ : Ty) (x : τ.den) (vs : List Value), PR w Z Zp τ x vs → ∀ u ∈ vs, u.oneCell' = true
  | .bool, _, _, hh => by simp [PR] at hh; subst hh; simp [Value.oneCell']
  | .int _, _, _, hh => by simp [PR] at hh; subst hh; simp [Value.oneCell']
  | .str, _, _, hh => by simp [PR] at hh; subst hh; simp [Value.oneCell']
  | .sl _, _, _, ⟨_, _, _, hh, _⟩ => by subst hh; simp [Value.oneCell']
  | .pair a b, _, _, ⟨us, rs, e, h1, h2⟩ => by
    subst e
    intro u hu
    rcases List.mem_append.1 hu with hu | hu
    · exact PR_one a _ _ h1 u hu
    · exact PR_one b _ _ h2 u hu
  | .unit, _, _, hh => by simp [PR] at hh; subst hh; simp
  | .ref _, _, _, ⟨_, _, _, hh, _⟩ => by subst hh; simp [Value.oneCell']
  | .fn _, _, _, hh => by simp [PR] at hh; subst hh; simp [Value.oneCell']

theorem PRL_one {Z : Zone} {e : Ty} : ∀ (l : List e.den) (vs : List Value), PRL (PR w Z Zp e) l vs → ∀ u ∈ vs, u.oneCell' = true
  | [], _, hh => by simp [PRL] at hh; subst hh; simp
  | x :: l, _, ⟨es, rest, e1, h1, h2⟩ => by
    subst e1
    intro u hu
    rcases List.mem_append.1 hu with hu | hu
    · exact PR_one e x es h1 u hu
    · exact PRL_one l rest h2 u hu

theorem src_PR {Z : Zone} {e : Ty} {m : List e.den} {v : Value} {tx e' : TypeId} (hu : P.underlying tx = some (.slice e')) (hp : PR w Z Zp (.sl e) m [v]) :
    ∃ us, Src P e.size tx v (List.length m) us w ∧ PRL (PR w Z Zp e) m us := by
  obtain ⟨bs, cap, us, hv, hcap, hpl, hat⟩ := hp
  simp at hv
  subst hv
  have hlen := PRL.length (PR.k e) m us hpl
  have hone := PRL_one m us hpl
  refine ⟨us, ?_, hpl⟩
  cases bs with
  | some ad =>
    refine Src.ofSlice w hu ad _ cap us hlen (fun j u hj => ?_) hone
    obtain ⟨b, off, hb, hc⟩ := hat (by intro h0; subst h0; simp at hj)
    cases hb
    rw [addr_add]
    exact (hc j u hj).1
  | none =>
    have h0 : us = [] := by
      by_cases h0 : us = []
      · exact h0
      · obtain ⟨b, off, hb, _⟩ := hat h0
        cases hb
    subst h0
    refine ⟨.inl ⟨e', hu⟩, fun _ => rfl, run_firstCells_none w _ _ _ _, run_firstCells_none w.drew _ _ _ _, hlen, by simp⟩

theorem run_append_room2 {t tx ty e : TypeId} {i : TypeInfo} (ht : P.underlying t = some (.slice e)) (hi : P.info? e = some i) {b sLen sCap : Nat} {cur : Array Value} {e0 : TypeId} (hcur : w.heap[b]? = some (.cells cur e0 (0, 0))) {x : Value} {n : Nat} {news : List Value}
    (hs : Src P i.size tx x n news w) (hroom : sLen + n ≤ sCap) (hfit : sLen * i.size + news.length ≤ cur.size) :
    (Builtin.append_ #[t, tx] ty #[.slice (some ⟨b, 0, none⟩) sLen sCap, x]).run P w = .ok (.slice (some ⟨b, 0, none⟩) (sLen + n) sCap) (w.setRow b (cur.toList.take (sLen * i.size) ++ news ++ cur.toList.drop (sLen * i.size + news.length)).toArray) := by
  have hst := run_storeCells_at P b (sLen * i.size) e0 news 0 cur w hcur (by simpa using hfit) hs.one
  simp only [Nat.add_zero] at hst
  rcases hs.kind with ⟨e', hk⟩ | hk <;> simp [Builtin.append_, run_underlying ht, run_underlying hk, sizeOf, typeInfo, hi, hs.len, hroom, hs.cells, Addr.add_lit, hst]

theorem run_append_none0 {t tx ty e : TypeId} {i : TypeInfo} (ht : P.underlying t = some (.slice e)) (hi : P.info? e = some i) {x : Value} {news : List Value} (hs : Src P i.size tx x 0 news w) :
    (Builtin.append_ #[t, tx] ty #[.slice none 0 0, x]).run P w = .ok (.slice none 0 0) w := by
  rcases hs.kind with ⟨e', hk⟩ | hk <;> simp [Builtin.append_, run_underlying ht, run_underlying hk, sizeOf, typeInfo, hi, hs.len, hs.cells]

/-- what an append may be made onto: nil, or a block that nobody holds any more -/
def Onto (w : World) (base : Nat) (Zp : Zone) (h : Heap) (g : G) (e : Ty) (l : List e.den) (v : Value) : Prop :=
  (v = .slice none 0 0 ∧ l = []) ∨
  (∃ b cap cur e0, v = .slice (some ⟨b, 0, none⟩) (List.length l) cap ∧ w.heap[b]? = some (.cells cur e0 (0, 0)) ∧ List.length l ≤ cap ∧ cap ≤ maxLen ∧ cur.size = cap * e.size ∧ base ≤ b ∧ b < w.heap.size ∧
    (∀ o, look .dead o h ≠ .dead → g.hm o ≠ some b) ∧ (∀ i, g.Z b i → i < List.length l * e.size) ∧ PRL (PR w g.Z Zp e) l (cur.toList.take (List.length l * e.size)))

theorem app_some {α : Type} {b : Nat} {l m n : List α} (h : app b l m = some n) : (l.length + m.length) * b ≤ 140737488355328 ∧ l.length + m.length ≤ 140737488355328 ∧ n = l ++ m := by
  unfold app at h; split at h
  · rename_i hb; cases h; exact ⟨hb.1, hb.2, rfl⟩
  · cases h

theorem PRL.app {α : Type} {R : α → List Value → Prop} : ∀ (l m : List α) (vs us : List Value), PRL R l vs → PRL R m us → PRL R (l ++ m) (vs ++ us)
  | [], _, _, _, h1, h2 => by simp [PRL] at h1; subst h1; simpa using h2
  | x :: l, m, _, us, ⟨es, rest, e, hx, hl⟩, h2 => by subst e; exact ⟨es, rest ++ us, by simp, hx, PRL.app l m rest us hl h2⟩

theorem zeroCells_size (z : Array Value) (n : Nat) : (Builtin.zeroCells z n).size = n * z.size := by simp [Builtin.zeroCells]

theorem append_core (R : HR w0 Z0 Zp h g w) (hn : ¬ g.al new) {t tx e ty : TypeId} {d de : TD} (T : TOK P t d) (Te : TOK P e de) (hd : d.desc = .slice e) {τ : Ty} (hz : de.zero = true) (hτ : de.ty = some τ)
    {l m n : List τ.den} {v x : Value} {us : List Value} (hon : Onto w w0.heap.size Zp h g τ l v) (hsrc : Src P τ.size tx x (List.length m) us w) (hpl : PRL (PR w g.Z Zp τ) m us) (happ : app de.bytes l m = some n) :
    OpSim P w0 Z0 Zp h g w new (do pure (.value (← Builtin.append_ #[t, tx] ty #[v, x]))) (.v false [.sl τ n (.own new)]) ((new, .tok) :: h) := by
  obtain ⟨hb1, hb2, rfl⟩ := app_some happ
  obtain ⟨t1, t2, t3, t4⟩ := Te.tyEq hτ
  obtain ⟨i, z, hi, his, hib, hiz, hzv, _⟩ := Te.zeroV hz hτ
  have hzs : z.cells.size = i.size := by
    have := congrArg List.length hzv
    rw [Array.length_toList, PR.length τ _ _ (zero_PR (w := w) (Z := Z0) (Zp := Zp) τ t3 t4)] at this
    omega
  have hte : τ.size = i.size := by omega
  rw [hte] at hsrc
  have hul := hsrc.newsLen
  -- a new row
  have grow : ∀ (bs : Option Addr) (sCap : Nat) (olds : List Value), v = .slice bs (List.length l) sCap → sCap < List.length l + List.length m → PRL (PR w g.Z Zp τ) l olds →
      (Builtin.firstCells i.size (List.length l) (.slice bs (List.length l) sCap)).run P w.drew = .ok olds.toArray w.drew →
      OpSim P w0 Z0 Zp h g w new (do pure (.value (← Builtin.append_ #[t, tx] ty #[v, x]))) (.v false [.sl τ (l ++ m) (.own new)]) ((new, .tok) :: h) := by
    intro bs sCap olds hv hlt hol hfc
    subst hv
    have hr := run_append_grow_src (P := P) w t tx ty e i z (T.slice hd) hi hiz bs (List.length l) sCap olds hfc x _ us hsrc hlt (by omega) (growslice_fits hlt (by rw [hib]; exact hb1))
    have hge := grownCap_ge w (List.length l + List.length m) sCap e
    have hcm := grownCap_le_maxLen w (List.length l + List.length m) sCap e (by simp only [maxLen]; omega)
    have hol2 := PRL.length (PR.k τ) l olds hol
    have hll : List.length (l ++ m) = List.length l + List.length m := List.length_append
    have hmul : (List.length l + List.length m) * τ.size = List.length l * τ.size + List.length m * τ.size := Nat.add_mul _ _ _
    rw [hte] at hmul hol2
    refine OpSim.alloc R hn (w1 := w.drew) (.inr rfl) (cur := (olds ++ us).toArray ++ Builtin.zeroCells z.cells (grownCap w (List.length l + List.length m) sCap e - (List.length l + List.length m))) (e0 := e)
      (v := .slice (some ⟨w.heap.size, 0, none⟩) (List.length l + List.length m) (grownCap w (List.length l + List.length m) sCap e)) _ ((List.length l + List.length m) * τ.size) (by simp [hr]) (fun L2 hnew => ⟨trivial, ?_⟩) (fun h => by cases h)
    have := AR.own (h := (new, .tok) :: h) (base := w0.heap.size) (e := τ) (l := l ++ m) (Zp := Zp) (newG_al g new (some w.heap.size) ((List.length l + List.length m) * τ.size)) (hm_new _ _ _ _) (by rw [lo_new, hll]) R.base_le hnew
      (cap := grownCap w (List.length l + List.length m) sCap e) (by rw [hll]; exact hge) hcm
      (by
        rw [Array.size_append, zeroCells_size, List.size_toArray, List.length_append, hol2, hul, hzs, hte, Nat.sub_mul]
        have : (List.length l + List.length m) * i.size ≤ grownCap w (List.length l + List.length m) sCap e * i.size := Nat.mul_le_mul_right _ hge
        omega)
      (by
        have e1 : List.length (l ++ m) * τ.size = (olds ++ us).length := by rw [hll, hte, List.length_append, hol2, hul, hmul]
        rw [e1, Array.toList_append, List.take_left]
        exact PRL.mono (fun x es hx => PR.mono L2.z L2.zp _ _ _ hx) _ _ (PRL.app _ _ _ _ hol hpl))
      (fun j hj => .inr ⟨rfl, by rw [hll] at hj; exact hj⟩)
    rw [hll] at this
    exact this
  rcases hon with ⟨rfl, rfl⟩ | ⟨b, cap, cur, e0, rfl, hcur, hlc, hcm, hcs, hbb, hbl, hfree, hzb, hold⟩
  · by_cases hm : m = []
    · subst hm
      have hr := run_append_none0 (P := P) (ty := ty) (T.slice hd) hi hsrc
      obtain ⟨R1, L1⟩ := R.tokNil hn
      refine ⟨_, .slice none 0 0, w, _, by simp [hr], .inl rfl, R1, L1, AR.ofC ⟨⟨none, 0, [], rfl, Nat.le_refl _, rfl, fun h => absurd rfl h⟩, newG_al _ _ _ _, fun _ => .inl ⟨hm_new _ _ _ _, rfl, rfl⟩⟩, fun o ho => ho⟩
    · have : 0 < List.length m := List.length_pos_iff.2 hm
      exact grow none 0 [] rfl (by simpa using this) rfl (run_firstCells_none w.drew _ _ _ _)
  · by_cases hroom : List.length l + List.length m ≤ cap
    · have hfit : List.length l * i.size + us.length ≤ cur.size := by
        rw [hul, hcs, ← Nat.add_mul, hte]; exact Nat.mul_le_mul_right _ hroom
      have hr := run_append_room2 (P := P) (ty := ty) (T.slice hd) hi hcur hsrc hroom hfit
      rw [hte] at hold hzb hcs
      have htl : (cur.toList.take (List.length l * i.size)).length = List.length l * i.size := by simp; omega
      have hcell : ∀ j, j < List.length l * i.size → (cur.toList.take (List.length l * i.size) ++ us ++ cur.toList.drop (List.length l * i.size + us.length)).toArray[j]? = cur[j]? := by
        intro j hj
        rw [List.getElem?_toArray, List.append_assoc, List.getElem?_append_left (by omega), List.getElem?_take, if_pos hj, Array.getElem?_toList]
      have hnewheap := setRow_heap w b cur (cur.toList.take (List.length l * i.size) ++ us ++ cur.toList.drop (List.length l * i.size + us.length)).toArray e0 (0, 0) hcur
      obtain ⟨R1, L1⟩ := R.regrow (w' := w.setRow b (cur.toList.take (List.length l * i.size) ++ us ++ cur.toList.drop (List.length l * i.size + us.length)).toArray) (k := (List.length l + List.length m) * τ.size) hn hfree hbb hbl
        (fun c hc => setRow_other w b c _ hc) (setRow_size _ _ _) (ext_setRow R.ext hbb _) (fun j hj => ⟨by
          have := hzb j hj
          rw [hte, Nat.add_mul]; omega, by rw [cell_block hnewheap, cell_block hcur, hcell j (hzb j hj)]⟩)
      have hll : List.length (l ++ m) = List.length l + List.length m := List.length_append
      refine ⟨_, .slice (some ⟨b, 0, none⟩) (List.length l + List.length m) cap, _, _, by simp [hr], .inl rfl, R1, L1, ?_, fun o ho => ho⟩
      have := AR.own (h := (new, .tok) :: h) (base := w0.heap.size) (e := τ) (l := l ++ m) (Zp := Zp) (newG_al g new (some b) ((List.length l + List.length m) * τ.size)) (hm_new _ _ _ _) (by rw [lo_new, hll]) hbb hnewheap
        (cap := cap) (by rw [hll]; exact hroom) hcm (by rw [hte]; simp; omega)
        (by
          have e1 : List.length (l ++ m) * τ.size = (cur.toList.take (List.length l * i.size) ++ us).length := by rw [hll, hte, List.length_append, htl, hul, Nat.add_mul]
          rw [e1]
          simp only [List.take_left]
          exact PRL.mono (fun x es hx => PR.mono L1.z L1.zp _ _ _ hx) _ _ (PRL.app _ _ _ _ hold hpl))
        (fun j hj => .inr ⟨rfl, by rw [hll] at hj; exact hj⟩)
      rw [hll] at this
      exact this
    · refine grow _ cap _ rfl (by omega) hold ?_
      have hol := PRL.length (PR.k τ) _ _ hold
      rw [hte] at hol ⊢
      refine run_firstCells_some w.drew i.size _ _ _ cap _ hol fun j u hj => ?_
      rw [addr_add, Nat.zero_add]
      show w.cell? _ = _
      rw [cell_block hcur]
      rw [List.getElem?_take] at hj
      split at hj
      · simpa using hj
      · cases hj


theorem src_row {e : Ty} {l : List e.den} {b : Nat} {cur : Array Value} {e0 : TypeId} {fz : Nat × Nat} {tx e' : TypeId} (hu : P.underlying tx = some (.slice e')) (hcur : w.heap[b]? = some (.cells cur e0 fz)) (hpr : PRL (PR w g.Z Zp e) l cur.toList) (n : Nat) :
    Src P e.size tx (.slice (some ⟨b, 0, none⟩) (List.length l) n) (List.length l) cur.toList w :=
  Src.ofSlice w hu _ _ _ _ (PRL.length (PR.k e) l _ hpr) (fun j u hj => by rw [addr_add, Nat.zero_add, cell_block hcur]; simpa using hj) (PRL_one l _ hpr)

theorem srcM_sim (R : HR w0 Z0 Zp h g w) {τ : Ty} {x : A} {v : Value} {tx e' : TypeId} (hu : P.underlying tx = some (.slice e')) (hx : AR w w0.heap.size Zp h g x v) {k : List τ.den → HM} {res : A × Heap × Log} (e : (srcM false τ x k).eval next h L = some res) :
    ∃ m us L1, (k m).eval next h L1 = some res ∧ Src P τ.size tx v (List.length m) us w ∧ PRL (PR w g.Z Zp τ) m us := by
  unfold srcM at e
  split at e
  · rename_i c
    have hc := hx.c
    cases c
    case vec o =>
      simp only [freezeC] at e
      have e := eval_get e
      obtain ⟨hal, hs, hr⟩ := hc
      split at e
      · rename_i ety l ho
        have hob := R.ob o
        rw [ho] at hob
        obtain ⟨h0, h00, b, cur, e0, hb, hcur, hpr⟩ := hob
        obtain ⟨b', hb', rfl⟩ := hr ety (List.length l) (by rw [ho]; rfl)
        rw [hb'] at hb; cases hb
        split at e
        · rename_i m hm
          obtain ⟨he, rfl⟩ := castSl_eq hm
          subst he
          exact ⟨_, _, _, e, src_row hu hcur hpr _, hpr⟩
        · exact (eval_fail e).elim
      · rename_i ety l ho
        have hob := R.ob o
        rw [ho] at hob
        obtain ⟨h0, h00, b, cur, e0, fz, hb, hcur, hpr, _⟩ := hob
        obtain ⟨b', hb', rfl⟩ := hr ety (List.length l) (by rw [ho]; rfl)
        rw [hb'] at hb; cases hb
        split at e
        · rename_i m hm
          obtain ⟨he, rfl⟩ := castSl_eq hm
          subst he
          exact ⟨_, _, _, e, src_row hu hcur hpr _, hpr⟩
        · exact (eval_fail e).elim
      · exact (eval_fail e).elim
    case sl ety l t =>
      simp only [freezeC] at e
      split at e
      · rename_i m hm
        obtain ⟨he, rfl⟩ := castSl_eq hm
        subst he
        obtain ⟨us, h1, h2⟩ := src_PR (P := P) hu hc.1
        exact ⟨_, us, _, e, h1, h2⟩
      · exact (eval_fail e).elim
    case nils =>
      simp only [freezeC] at e
      simp only [CR] at hc
      subst hc
      exact ⟨[], [], _, e, Src.ofNil w hu 0, rfl⟩
    all_goals (simp only [freezeC] at e; exact (eval_fail e).elim)
  · exact (eval_fail e).elim

/-- behind a drop the token's block is nobody's -/
theorem onto_tok (R : HR w0 Z0 Zp h g w) {o : Nat} {e : Ty} {l : List e.den} {v : Value} (ho : look .dead o h = .tok) (hc : CR w w0.heap.size Zp h g (.sl e l (.own o)) v) : Onto w w0.heap.size Zp ((o, .dead) :: h) g e l v := by
  obtain ⟨hp, hal, ht⟩ := hc
  rcases ht ho with ⟨h1, h2, h3⟩ | ⟨b, cap, cur, e0, h1, h2, h3, h4, h5, h6, h7, h8⟩
  · exact .inl ⟨h2, List.length_eq_zero_iff.1 h3⟩
  · obtain ⟨bs, cap', us, hv, _, hpl, hat⟩ := hp
    simp at hv
    subst hv
    simp at h2
    obtain ⟨rfl, rfl⟩ := h2
    have hul := PRL.length (PR.k e) l us hpl
    have hbl := (R.home o b (by rw [ho]; simp) h1).2
    refine .inr ⟨b, cap', cur, e0, rfl, h3, h4, h5, h6, h7, hbl, fun p hp hpb => ?_, fun i hi => h8 ▸ R.excT o b i ho h1 hi, ?_⟩
    · rw [look_cons] at hp
      split at hp
      · exact hp rfl
      · rename_i hne
        exact hne (R.dist o p b (by rw [ho]; simp) hp h1 hpb)
    · have : cur.toList.take (List.length l * e.size) = us := by
        rw [← hul]
        apply List.ext_getElem?
        intro j
        rw [List.getElem?_take]
        by_cases hj : j < us.length
        · rw [if_pos hj]
          obtain ⟨b2, off, hb2, hc⟩ := hat (by intro h0; subst h0; simp at hj)
          cases hb2
          have h9 := (hc j us[j] (List.getElem?_eq_getElem hj)).1
          rw [Nat.zero_add, cell_block h3] at h9
          rw [List.getElem?_eq_getElem hj, Array.getElem?_toList, h9]
        · rw [if_neg hj, List.getElem?_eq_none (by omega)]
      rw [this]; exact hpl

theorem onto_row (R : HR w0 Z0 Zp h g w) {o : Nat} {e : Ty} {l : List e.den} {v : Value} (ho : look .dead o h = .row e l) (hc : CR w w0.heap.size Zp h g (.vec o) v) (hl : List.length l ≤ maxLen) : Onto w w0.heap.size Zp ((o, .dead) :: h) g e l v := by
  obtain ⟨hal, hs, hr⟩ := hc
  obtain ⟨b, hb, rfl⟩ := hr e (List.length l) (by rw [ho]; rfl)
  have hob := R.ob o
  rw [ho] at hob
  obtain ⟨h0, h00, b', cur, e0, hb', hcur, hpr⟩ := hob
  rw [hb] at hb'; cases hb'
  have hul := PRL.length (PR.k e) l _ hpr
  have hbl := R.home o b (by rw [ho]; simp) hb
  refine .inr ⟨b, List.length l, cur, e0, rfl, hcur, Nat.le_refl _, hl, by simpa using hul, hbl.1, hbl.2, fun p hp hpb => ?_, fun i hi => absurd hi (R.excl o b i (by rw [ho]; rfl) hb), ?_⟩
  · rw [look_cons] at hp
    split at hp
    · exact hp rfl
    · rename_i hne
      exact hne (R.dist o p b (by rw [ho]; simp) hp hb hpb)
  · rw [← hul, List.take_length]; exact hpr

theorem onto_nil {e : Ty} : Onto w base Zp h g e ([] : List e.den) (.slice none 0 0) := .inl ⟨rfl, rfl⟩

theorem append_sim (R : HR w0 Z0 Zp h g w) (hn : ¬ g.al new) {t tx e ex ty : TypeId} {d dx de : TD} (T : TOK P t d) (Tx : TOK P tx dx) (Te : TOK P e de) (hd : d.desc = .slice e) (hdx : dx.desc = .slice ex) {τ : Ty} (hz : de.zero = true) (hτ : de.ty = some τ)
    {s x : A} {v vx : Value} (hs : AR w w0.heap.size Zp h g s v) (hx : AR w w0.heap.size Zp h g x vx) (e1 : (appendM new τ de.bytes s x).eval next h L = some (r, h', L')) :
    OpSim P w0 Z0 Zp h g w new (do pure (.value (← Builtin.append_ #[t, tx] ty #[v, vx]))) r h' := by
  obtain ⟨t1, t2, t3, t4⟩ := Te.tyEq hτ
  unfold appendM at e1
  obtain ⟨m, us, L1, e2, hsrc, hpl⟩ := srcM_sim R (Tx.slice hdx) hx e1
  clear e1
  split at e2
  · obtain ⟨n, hn2, e2⟩ := eval_opt e2
    have e2 := eval_set e2
    obtain ⟨rfl, rfl, _⟩ := eval_retC e2
    have hv := hs.c
    simp only [CR] at hv
    subst hv
    exact append_core R hn T Te hd hz hτ onto_nil hsrc hpl hn2
  · rename_i ety l o
    split at e2
    · rename_i l' hl'
      obtain ⟨he, rfl⟩ := castSl_eq hl'
      subst he
      have e2 := eval_get e2
      split at e2
      · rename_i ho
        obtain ⟨n, hn2, e2⟩ := eval_opt e2
        have e2 := eval_set e2
        have e2 := eval_set e2
        obtain ⟨rfl, rfl, _⟩ := eval_retC e2
        obtain ⟨R1, Le2⟩ := R.drop o
        exact OpSim.behind Le2 (fun _ h => h) (append_core R1 hn T Te hd hz hτ (onto_tok R ho hs.c) hsrc hpl hn2)
      · exact (eval_fail e2).elim
    · exact (eval_fail e2).elim
  · rename_i o
    have e2 := eval_get e2
    split at e2
    · rename_i ety l ho
      split at e2
      · rename_i l' hl'
        obtain ⟨he, rfl⟩ := castSl_eq hl'
        subst he
        obtain ⟨n, hn2, e2⟩ := eval_opt e2
        have e2 := eval_set e2
        have e2 := eval_set e2
        obtain ⟨rfl, rfl, _⟩ := eval_retC e2
        obtain ⟨R1, Le2⟩ := R.drop o
        have hlm : List.length l + List.length m ≤ 140737488355328 := (app_some hn2).2.1
        exact OpSim.behind Le2 (fun _ h => h) (append_core R1 hn T Te hd hz hτ (onto_row R ho hs.c (by simp only [maxLen]; omega)) hsrc hpl hn2)
      · exact (eval_fail e2).elim
    · exact (eval_fail e2).elim
  · exact (eval_fail e2).elim

end
end Go.Am

/- The abstract machine: one operation, whichever (calls of functions apart). -/
namespace Go.Am
open Go

section
variable {P : Program} {w0 w w' : World} {Z0 Zp : Zone} {h h' : Heap} {g : G} {new next base : Nat} {r : A} {L L' : Log} {X : Cx}

theorem withT_eval (hX : XOK P X.tt) {t : TypeId} {k : TD → HM} {res : A × Heap × Log} (e : (withT X t k).eval next h L = some res) : ∃ d, lookO t X.tt = some d ∧ TOK P t d ∧ (k d).eval next h L = some res := by
  unfold withT at e
  split at e
  · rename_i d hd; exact ⟨d, hd, hX.get hd, e⟩
  · exact (eval_fail e).elim

theorem withTy_eval {d : TD} {k : Ty → HM} {res : A × Heap × Log} (e : (withTy d k).eval next h L = some res) : ∃ τ, d.ty = some τ ∧ (k τ).eval next h L = some res := by
  unfold withTy at e
  split at e
  · rename_i τ hd; exact ⟨τ, hd, e⟩
  · exact (eval_fail e).elim

theorem OpSim.val (R : HR w0 Z0 Zp h g w) {s : Sem Value} {v : Value} (hr : s.run P w = .ok v w) (ha : AR w w0.heap.size Zp h g r v) : OpSim P w0 Z0 Zp h g w new (s >>= fun x => Pure.pure (Next.value x)) r h :=
  OpSim.pure R (v := v) (by simp [hr]) ha

theorem extract_sim {x : A} {v : Value} {j : Nat} (hx : AR w base Zp h g x v) (e : (extractM x j).eval next h L = some (r, h', L')) : h' = h ∧ ∃ u, (Instr.extract v j).run P w = .ok u w ∧ AR w base Zp h g r u := by
  unfold extractM at e
  split at e
  · rename_i ps
    split at e
    · rename_i gg cs hj
      have e := eval_ret e
      cases e
      obtain ⟨vs, rfl, hp⟩ := hx
      have h1 := PRL.get (k := 1) (fun x es ⟨u, hu, _⟩ => by rw [hu]; rfl) ps vs hp j _ hj
      obtain ⟨u, hu, hv⟩ := h1
      have h2 : vs[j]? = some u := by
        have := getElem?_sub vs (j * 1) 1 0 u (by rw [hu]; rfl)
        simpa using this
      exact ⟨rfl, u, by simp [Instr.extract, h2], hv⟩
    · exact (eval_fail e).elim
  · exact (eval_fail e).elim

theorem foldInts_sim {f : Int → Int → Int} {k : IntKind} {F : Value → Value → Sem Value} (hF : ∀ a b, F (.int k a) (.int k b) = pure (.int k (f a b))) : ∀ (as : List A) (vs : List Value) (n : Int),
    PRL (fun a es => ∃ u, es = [u] ∧ AR w base Zp h g a u) as vs → (foldInts f k n as).eval next h L = some (r, h', L') → h' = h ∧ ∃ u, (vs.foldlM F (.int k n)).run P w = .ok u w ∧ AR w base Zp h g r u
  | [], vs, n, hv, e => by
    simp only [PRL] at hv; subst hv
    obtain ⟨rfl, rfl, _⟩ := eval_retI e
    exact ⟨rfl, .int k n, by simp, AR.ofC rfl⟩
  | a :: as, vs, n, ⟨es, rest, e1, ⟨u, e2, hu⟩, hr⟩, e => by
    subst e2; subst e1
    unfold foldInts at e
    split at e
    · rename_i h0; cases h0
    · rename_i n' k' m r' heq
      cases heq
      split at e
      · rename_i hk _; subst hk
        have := hu.c
        simp only [CR] at this
        subst this
        obtain ⟨h1, u2, h2, h3⟩ := foldInts_sim hF as rest _ hr e
        exact ⟨h1, u2, by simp [List.foldlM_cons, hF, h2], h3⟩
      · exact (eval_fail e).elim
    · exact (eval_fail e).elim

theorem args_AR {env : Env} {a : Act} (he : ∀ t, AR w base Zp h g (look undefA t env) (a.tmps.getD t undef)) : ∀ (xs : List Operand), PRL (fun b es => ∃ u, es = [u] ∧ AR w base Zp h g b u) (xs.map (rho env)) (xs.map a.eval)
  | [] => rfl
  | x :: xs => ⟨[a.eval x], _, rfl, ⟨_, rfl, rho_AR he x⟩, args_AR he xs⟩

theorem closOf_sim (R : HR w0 Z0 Zp h g w) {env : Env} {a : Act} (he : ∀ t, AR w w0.heap.size Zp h g (look undefA t env) (a.tmps.getD t undef)) : ∀ (xs : List Operand) (ids : List Nat), closOf (xs.map (rho env)) = some ids →
    PRL (fun o es => g.al o ∧ ∃ u, es = [u] ∧ isPtr u ∧ (look .dead o h ≠ .dead → ∃ b, g.hm o = some b ∧ u = .pointer (some ⟨b, 0, none⟩))) ids (xs.map a.eval)
  | [], ids, e => by simp [closOf, mapO] at e; subst e; rfl
  | x :: xs, ids, e => by
    have hx := rho_AR he x
    simp only [closOf, List.map_cons, mapO] at e
    split at e
    · rename_i o ho
      split at e
      · rename_i os hos
        cases e
        have ih := closOf_sim R he xs os hos
        split at ho
        · rename_i o' heq
          cases ho
          rw [heq] at hx
          exact ⟨[a.eval x], _, rfl, ⟨hx.c.1, _, rfl, hx.c.2.1, hx.c.2.2⟩, ih⟩
        · cases ho
      · cases e
    · cases e

theorem idxS_some {s : List UInt8} {i n : Int} (hx : idxS s i = some n) : 0 ≤ i ∧ ∃ b : UInt8, s[i.toNat]? = some b ∧ n = (b.toNat : Int) := by
  unfold idxS at hx
  split at hx
  · rename_i h0
    cases hb : s[i.toNat]? with
    | none => simp [hb] at hx
    | some b => simp [hb] at hx; exact ⟨h0, b, rfl, hx.symm⟩
  · cases hx

theorem arr2 {α : Type} {xs : Array α} {a b : α} (h : xs.toList = [a, b]) : xs = #[a, b] := by
  apply Array.ext'; simpa using h
theorem arr1 {α : Type} {xs : Array α} {a : α} (h : xs.toList = [a]) : xs = #[a] := by
  apply Array.ext'; simpa using h

theorem map_eq_pair {α β : Type} {f : α → β} {l : List α} {a b : β} (h : l.map f = [a, b]) : ∃ x y, l = [x, y] ∧ f x = a ∧ f y = b := by
  match l, h with
  | [x, y], h => simp at h; exact ⟨x, y, rfl, h.1, h.2⟩
theorem map_eq_one {α β : Type} {f : α → β} {l : List α} {a : β} (h : l.map f = [a]) : ∃ x, l = [x] ∧ f x = a := by
  match l, h with
  | [x], h => simp at h; exact ⟨x, rfl, h⟩

theorem builtin_sim (hX : XOK P X.tt) (R : HR w0 Z0 Zp h g w) (hn : ¬ g.al new) {env : Env} {a : Act} (he : ∀ t, AR w w0.heap.size Zp h g (look undefA t env) (a.tmps.getD t undef)) {b : Builtin} {ts : Array TypeId} {ty : TypeId} {args : Array Operand} {cs : Array Bool}
    (e : (builtinM X new b ts.toList (args.toList.map (rho env))).eval next h L = some (r, h', L')) : OpSim P w0 Z0 Zp h g w new (builtin b ts ty cs (args.map a.eval)) r h' := by
  generalize htl : ts.toList = tl at e
  generalize hal : args.toList.map (rho env) = al at e
  unfold builtinM at e
  split at e
  · -- len
    rename_i t x
    obtain ⟨x0, hx0, hxr⟩ := map_eq_one hal
    have hts := arr1 htl
    have has := arr1 hx0
    subst hts; subst has
    have hx := rho_AR he x0
    rw [hxr] at hx
    split at e
    · rename_i d hd
      have T := hX.get hd
      split at e
      · rename_i te hdd
        obtain ⟨rfl, n, ad, c, hv, rfl⟩ := lenM_sim R hx e
        refine OpSim.val R (v := .int .i64 n) ?_ (AR.ofC rfl)
        simp [hv, Builtin.len_, run_underlying (T.slice hdd), goInt]
      · rename_i s hdd
        obtain ⟨rfl, rfl, _⟩ := eval_retI e
        have hv := hx.c
        simp only [CR] at hv
        refine OpSim.val R (v := .int .i64 s.length) ?_ (AR.ofC rfl)
        simp [hv, Builtin.len_, run_underlying (T.string hdd), goInt, str_size]
      · rename_i n te hdd
        obtain ⟨rfl, rfl, _⟩ := eval_retI e
        refine OpSim.val R (v := .int .i64 n) ?_ (AR.ofC rfl)
        simp [Builtin.len_, run_underlying (T.array hdd), goInt]
      · exact (eval_fail e).elim
    · exact (eval_fail e).elim
  · -- append
    rename_i t u s x
    obtain ⟨s0, x0, hsx, hsr, hxr⟩ := map_eq_pair hal
    have hts := arr2 htl
    have has := arr2 hsx
    subst hts; subst has
    have hx := rho_AR he x0
    have hs := rho_AR he s0
    rw [hxr] at hx
    rw [hsr] at hs
    split at e
    · rename_i d du hd hdu
      split at e
      · rename_i te tu hdd hddu
        split at e
        · rename_i de hde
          split at e
          · rename_i τ hτ
            split at e
            · rename_i hc
              simp only [Bool.and_eq_true] at hc
              have := append_sim (ty := ty) R hn (hX.get hd) (hX.get hdu) (hX.get hde) hdd hddu hc.2 hτ hs hx e
              simpa [builtin] using this
            · exact (eval_fail e).elim
          · exact (eval_fail e).elim
        · exact (eval_fail e).elim
      · exact (eval_fail e).elim
    · exact (eval_fail e).elim
  · -- max
    rename_i k n rest
    have hp := args_AR he args.toList
    rw [hal] at hp
    obtain ⟨es, rst, h1, ⟨u, h2, h3⟩, h4⟩ := hp
    subst h2
    have h5 := h3.c
    simp only [CR] at h5
    subst h5
    obtain ⟨rfl, u, h6, h7⟩ := foldInts_sim (P := P) (F := Builtin.max2) (fun a b => rfl) rest rst n h4 e
    refine OpSim.val R (v := u) ?_ h7
    simp only [Builtin.max_, Array.toList_map, h1, List.singleton_append]
    exact h6
  · -- min
    rename_i k n rest
    have hp := args_AR he args.toList
    rw [hal] at hp
    obtain ⟨es, rst, h1, ⟨u, h2, h3⟩, h4⟩ := hp
    subst h2
    have h5 := h3.c
    simp only [CR] at h5
    subst h5
    obtain ⟨rfl, u, h6, h7⟩ := foldInts_sim (P := P) (F := Builtin.min2) (fun a b => rfl) rest rst n h4 e
    refine OpSim.val R (v := u) ?_ h7
    simp only [Builtin.min_, Array.toList_map, h1, List.singleton_append]
    exact h6
  · exact (eval_fail e).elim

end
end Go.Am

/- The abstract machine: structs compared, slices and nil, bytes as a string. -/
namespace Go.Am
open Go

section
variable {P : Program} {w0 w w' : World} {Z0 Zp : Zone} {h h' : Heap} {g : G} {new next base : Nat} {r : A} {L L' : Log} {X : Cx}

theorem toListBytes_eq (a b : List UInt8) : ((⟨a.toArray⟩ : ByteArray).toList == (⟨b.toArray⟩ : ByteArray).toList) = (a == b) := by rw [str_list, str_list]

theorem eqFields_run {xs ys : Array Value} (d : Nat) : ∀ (fs : List Field) (i : Nat) (τs : List Ty) (cs ds : List C) (us vs : List Value) (b : Bool), flatFs P i fs τs = true → eqCs τs cs ds = some b → CRs w base Zp h g cs us → CRs w base Zp h g ds vs →
    (∀ j u, us[j]? = some u → xs[i + j]? = some u) → (∀ j u, vs[j]? = some u → ys[i + j]? = some u) → (Op.eqFields (d + 1) xs ys fs).run P w = .ok b w
  | [], i, τs, cs, ds, us, vs, b, hf, he, hc, hd, hx, hy => by
    cases τs with
    | cons _ _ => cases hf
    | nil =>
      cases cs with
      | cons _ _ => cases he
      | nil =>
        cases ds with
        | cons _ _ => cases he
        | nil => cases he; rfl
  | f :: fs, i, τs, cs, ds, us, vs, b, hf, he, hc, hd, hx, hy => by
    cases τs with
    | nil => cases hf
    | cons τ τs =>
      cases cs with
      | nil => cases he
      | cons c cs =>
        cases ds with
        | nil => cases he
        | cons c2 ds =>
          simp only [flatFs, Bool.and_eq_true] at hf
          obtain ⟨⟨⟨hn, ho⟩, ht⟩, hf⟩ := hf
          have ho := Nat.eq_of_beq_eq_true ho
          simp only [eqCs] at he
          split at he
          · rename_i p q hp hq
            cases he
            obtain ⟨u, us, rfl, hu, hus⟩ := hc
            obtain ⟨v, vs, rfl, hv, hvs⟩ := hd
            have ih := eqFields_run d fs (i + 1) τs cs ds us vs q hf hq hus hvs
              (fun j u hj => by have := hx (j + 1) u (by simpa using hj); rwa [show i + (j + 1) = i + 1 + j by omega] at this)
              (fun j u hj => by have := hy (j + 1) u (by simpa using hj); rwa [show i + (j + 1) = i + 1 + j by omega] at this)
            have hxu : xs[f.offset]? = some u := by rw [ho]; simpa using hx 0 u rfl
            have hyv : ys[f.offset]? = some v := by rw [ho]; simpa using hy 0 v rfl
            have key : P.plainKey f.type = true ∧ (Op.equalIn (d + 1) f.type u v).run P w = .ok p w := by
              cases hun : P.underlying f.type with
              | none => rw [hun] at ht; cases τ <;> cases ht
              | some k =>
                rw [hun] at ht
                cases c <;> cases c2 <;> simp only [eqC] at hp <;> try (cases hp; done)
                · split at hp
                  · cases hp
                    cases k <;> first | (cases ht; done) | skip
                    simp only [CR] at hu hv
                    subst hu; subst hv
                    exact ⟨by simp [Program.plainKey, hun], Go.run_equalIn_bool w d _ _ _ hun⟩
                  · cases hp
                · split at hp
                  · rename_i q0
                    split at hp
                    · rename_i h1 h2 _ _
                      cases hp
                      cases k <;> first | (cases ht; done) | skip
                      simp only [CR] at hu hv
                      subst hu; subst hv; subst h1; subst h2
                      exact ⟨by simp [Program.plainKey, hun], run_equalIn_int w d _ _ _ _ _ hun⟩
                    · cases hp
                  · cases hp
                · split at hp
                  · cases hp
                    cases k <;> first | (cases ht; done) | skip
                    simp only [CR] at hu hv
                    subst hu; subst hv
                    rename_i s1 s2 _
                    have := run_equalIn_string w d _ ⟨s1.toArray⟩ ⟨s2.toArray⟩ hun
                    rw [toListBytes_eq] at this
                    exact ⟨by simp [Program.plainKey, hun], this⟩
                  · cases hp
            have hne : f.name ≠ "_" := by simpa using hn
            simp only [Op.eqFields, if_pos hne, Sem.run_bind, run_part_plain w key.1 hxu, run_part_plain w key.1 hyv, key.2, Result.andThen_ok]
            cases p with
            | true => simpa using ih
            | false => simp
          · cases he

theorem eqA_sim {op : BinOp} {t : TypeId} {d : TD} (T : TOK P t d) {x y : Operand} {cs : List C} {ya : A} {vx vy : Value} (hx : AR w base Zp h g (.v true cs) vx) (hy : AR w base Zp h g ya vy) (e : (eqA op d cs ya).eval next h L = some (r, h', L')) :
    h' = h ∧ ∃ c v, r = .v false [c] ∧ (do eqGuard op t x y vx vy; binOp op t vx vy : Sem Value).run P w = .ok v w ∧ CR w base Zp h g c v := by
  unfold eqA at e
  split at e
  · rename_i τ τs ds hde
    split at e
    · rename_i b hb
      obtain ⟨us, rfl, hus⟩ := hx
      obtain ⟨vs, rfl, hvs⟩ := hy
      have hfl : flatB P t d.eq = true := by
        rcases T.eq with h | h
        · rw [hde] at h; cases h
        · exact h
      unfold flatB at hfl
      split at hfl
      · rename_i fs hun
        simp only [Bool.and_eq_true, Bool.not_eq_true'] at hfl
        have hfo : P.fieldsOf t = fs := by simp [Program.fieldsOf, hun]
        have hrun : (Op.equalIn 10000 t (.agg us.toArray) (.agg vs.toArray)).run P w = .ok b w := by
          rw [run_equalIn_struct w 9999 t _ _ (by rw [hfo]; exact hun) hfl.1.1, hfo]
          exact eqFields_run 9998 fs.toList 0 d.eq cs ds us vs b hfl.2 (by rw [hde]; exact hb) hus hvs (fun j u hj => by simpa using hj) (fun j u hj => by simpa using hj)
        have hg := run_eqGuard_agg (P := P) w op t x y us.toArray vs.toArray hfl.1.2
        simp only [Sem.run_bind, hg, Result.andThen_ok]
        split at e
        · obtain ⟨rfl, rfl, _⟩ := eval_retB e
          exact ⟨rfl, _, _, rfl, by rw [run_eql_struct, hrun]; rfl, rfl⟩
        · obtain ⟨rfl, rfl, _⟩ := eval_retB e
          exact ⟨rfl, _, _, rfl, by rw [run_neq_struct, hrun]; rfl, rfl⟩
        · exact (eval_fail e).elim
      · cases hfl
    · exact (eval_fail e).elim
  · exact (eval_fail e).elim

theorem nilA_sim {op : BinOp} {t : TypeId} {d : TD} (T : TOK P t d) {x y : Operand} {ty : Ty} {l : List ty.den} {tk : Tok} {ya : A} {vx vy : Value} (hx : AR w base Zp h g (.v false [.sl ty l tk]) vx) (hy : AR w base Zp h g ya vy) (e : (nilA op d tk ya).eval next h L = some (r, h', L')) :
    h' = h ∧ ∃ c v, r = .v false [c] ∧ (do eqGuard op t x y vx vy; binOp op t vx vy : Sem Value).run P w = .ok v w ∧ CR w base Zp h g c v := by
  unfold nilA at e
  split at e
  · rename_i te hde
    have hu := T.slice hde
    have hyv := hy.c
    simp only [CR] at hyv
    subst hyv
    have hxc := hx.c
    obtain ⟨_, hxt⟩ := hxc
    have key : ∀ (a : Option Addr) (n c : Nat), vx = .slice a n c → (do eqGuard .eql t x y vx (.slice none 0 0); binOp .eql t vx (.slice none 0 0) : Sem Value).run P w = .ok (.bool a.isNone) w ∧ (do eqGuard .neq t x y vx (.slice none 0 0); binOp .neq t vx (.slice none 0 0) : Sem Value).run P w = .ok (.bool (!a.isNone)) w := by
      intro a n c hv
      subst hv
      have hg : ∀ op, (eqGuard op t x y (.slice a n c) (.slice none 0 0)).run P w = .ok () w := fun op => by cases op <;> simp [eqGuard]
      simp only [Sem.run_bind, hg, Result.andThen_ok]
      have := Go.run_equal_slice_nil w t te a n c hu
      constructor <;> simp [binOp, this]
    split at e
    · obtain ⟨a, n, c, hv⟩ := hxt
      obtain ⟨rfl, rfl, _⟩ := eval_retB e
      exact ⟨rfl, _, _, rfl, (key _ _ _ hv).1, rfl⟩
    · obtain ⟨a, n, c, hv⟩ := hxt
      obtain ⟨rfl, rfl, _⟩ := eval_retB e
      exact ⟨rfl, _, _, rfl, (key _ _ _ hv).2, rfl⟩
    · obtain ⟨n, c, hv⟩ := hxt
      obtain ⟨rfl, rfl, _⟩ := eval_retB e
      exact ⟨rfl, _, _, rfl, (key _ _ _ hv).1, rfl⟩
    · obtain ⟨n, c, hv⟩ := hxt
      obtain ⟨rfl, rfl, _⟩ := eval_retB e
      exact ⟨rfl, _, _, rfl, (key _ _ _ hv).2, rfl⟩
    · exact (eval_fail e).elim
  · exact (eval_fail e).elim

theorem PRL_ints {k : IntKind} : ∀ (l : List Int) (vs : List Value), PRL (PR w Z0 Zp (.int k)) l vs → vs = l.map (Value.int k)
  | [], vs, h => h
  | n :: l, vs, ⟨es, rest, e, h1, h2⟩ => by
    have h1 : es = [.int k n] := h1
    rw [e, h1, PRL_ints l rest h2]; rfl

/-- bytes as a string -/
theorem bytes_sim {src dst te : TypeId} (hs : P.underlying src = some (.slice te)) (he : P.underlying te = some (.int .u8)) (hd : P.underlying dst = some .string) {l : List Int} {v : Value} (hv : PR w Z0 Zp (.sl (.int .u8)) l [v]) :
    (convert src dst v).run P w = .ok (.string ⟨(bytesOf l).toArray⟩) w := by
  obtain ⟨bs, cap, us, e1, e2, e3, e4⟩ := hv
  cases e1
  have e3 := PRL_ints l us e3
  subst e3
  cases bs with
  | none =>
    have hl : l = [] := by
      cases l with
      | nil => rfl
      | cons n l =>
        obtain ⟨b, off, hb, _⟩ := e4 (by simp)
        cases hb
    subst hl
    rw [run_convert_bytes_string w src dst te _ _ _ hs he hd]
    simp [Conv.bytesToString, bytesOf]
    rfl
  | some a =>
    have hl : (loadCells a l.length).run P w = .ok (l.map (Value.int .u8)).toArray w := by
      have := run_loadCells_list (P := P) w a (l.map (Value.int .u8)) (fun j u hj => by
        obtain ⟨b, off, hb, hc⟩ := e4 (by intro h0; rw [h0] at hj; simp at hj)
        cases hb
        rw [addr_add]
        exact (hc j u hj).1)
      simpa using this
    have h2 := run_bytesToString w a l.length cap l hl
    rw [foldl_push_bytes] at h2
    refine (run_convert_bytes_string w src dst te (some a) l.length cap hs he hd).trans (h2.trans ?_)
    simp [bytesOf, ByteArray.empty, ByteArray.emptyWithCapacity]
    rfl

end
end Go.Am

/- The abstract machine: one operation. -/
namespace Go.Am
open Go

section
variable {P : Program} {w0 w w' : World} {Z0 Zp : Zone} {h h' : Heap} {g : G} {new next base : Nat} {r : A} {L L' : Log} {X : Cx}

/-- a call of a function: not an operation of these -/
def callsF : Op → Bool
  | .call c => match c.callee with
    | .value _ => true
    | _ => false
  | _ => false

theorem exec_v {a : Act} {o : Oper} {s : Sem Value} (h : execOp a.eval o = (s >>= fun x => Pure.pure (Next.value x))) (H : OpSim P w0 Z0 Zp h' g w new (s >>= fun x => Pure.pure (Next.value x)) r h') : OpSim P w0 Z0 Zp h' g w new (execOp a.eval o) r h' := h ▸ H

theorem aop_sim (hX : XOK P X.tt) (R : HR w0 Z0 Zp h g w) (hn : ¬ g.al new) {env : Env} {a : Act} (he : ∀ t, AR w w0.heap.size Zp h g (look undefA t env) (a.tmps.getD t undef)) {o : Oper} (hcall : callsF o.op = false)
    (e : (aop X new (rho env) o.op).eval next h L = some (r, h', L')) : OpSim P w0 Z0 Zp h g w new (execOp a.eval o) r h' := by
  unfold execOp
  cases hop : o.op <;> rw [hop] at e hcall <;> simp only [aop] at e
  case move x => cases eval_ret e; exact OpSim.pure R (v := a.eval x) rfl (rho_AR he x)
  case assign x => cases eval_ret e; exact OpSim.pure R (v := a.eval x) rfl (rho_AR he x)
  case pick c x y =>
    have hc := rho_AR he c
    split at e
    · rename_i t ht
      rw [ht] at hc
      have hc := hc.c
      simp only [CR] at hc
      cases t <;> simp only [HM.eval] at e <;> cases e
      · exact OpSim.pure R (v := a.eval y) (by simp [hc, asBool]) (rho_AR he y)
      · exact OpSim.pure R (v := a.eval x) (by simp [hc, asBool]) (rho_AR he x)
    · exact (eval_fail e).elim
  case alloc t =>
    obtain ⟨d, hd, T, e⟩ := withT_eval hX e
    split at e
    · rename_i hz
      obtain ⟨τ, hτ, e⟩ := withTy_eval e
      obtain ⟨rfl, rfl, _⟩ := eval_retC (eval_set e)
      exact alloc_sim R hn T hz hτ
    · exact (eval_fail e).elim
  case box t x =>
    obtain ⟨d, hd, T, e⟩ := withT_eval hX e
    have hx := rho_AR he x
    split at e
    · rename_i gg cs hxr
      split at e
      · rename_i hc
        simp only [Bool.and_eq_true] at hc
        rw [hxr] at hx
        obtain ⟨rfl, rfl, _⟩ := eval_retC (eval_set e)
        exact box_sim R hn hc.1.2 hx
      · exact (eval_fail e).elim
    · exact (eval_fail e).elim
  case build t parts =>
    obtain ⟨d, hd, T, e⟩ := withT_eval hX e
    split at e
    · rename_i fs hdd hz
      obtain ⟨τ, hτ, e⟩ := withTy_eval e
      split at e
      · rename_i pl hpl
        split at e
        · rename_i cs hcs
          cases eval_ret e
          exact build_struct hX R T hdd hz hτ hpl he hcs
        · exact (eval_fail e).elim
      · exact (eval_fail e).elim
    · rename_i n te hdd hz
      obtain ⟨τ, hτ, e⟩ := withTy_eval e
      obtain ⟨de, hde, Te, e⟩ := withT_eval hX e
      split at e
      · rename_i cs hcs
        cases eval_ret e
        exact build_array R T Te hdd hz hτ he hcs
      · exact (eval_fail e).elim
    · exact (eval_fail e).elim
  case buildSlice t len parts =>
    obtain ⟨d, hd, T, e⟩ := withT_eval hX e
    split at e
    · rename_i te hdd
      obtain ⟨de, hde, Te, e⟩ := withT_eval hX e
      obtain ⟨τ, hτ, e⟩ := withTy_eval e
      split at e
      · rename_i hc
        exact buildSlice_sim R hn T Te hdd hτ he hc e
      · exact (eval_fail e).elim
    · exact (eval_fail e).elim
  case load t x =>
    obtain ⟨d, hd, T, e⟩ := withT_eval hX e
    obtain ⟨rfl, u, h1, h2⟩ := loadM_sim R T (rho_AR he x) e
    exact OpSim.val R h1 h2
  case store t x y =>
    obtain ⟨d, hd, T, e⟩ := withT_eval hX e
    exact store_sim R T (rho_AR he x) (rho_AR he y) e
  case nilCheck x =>
    obtain ⟨rfl, b, off, hv, har⟩ := ptrAdd_sim (rho_AR he x) e
    simp only [Nat.add_zero] at har
    refine OpSim.pure R (v := .pointer (some ⟨b, off, none⟩)) ?_ har
    simp [hv]
  case binOp op t x y ty =>
    have hx := rho_AR he x
    have hy := rho_AR he y
    split at e
    · rename_i b hxr
      obtain ⟨d, hd, T, e⟩ := withT_eval hX e
      split at e
      · rename_i hdd
        have hu : P.underlying t = some .bool := by
          obtain ⟨y, h1, h2⟩ := T.under
          rw [hdd] at h2
          cases y <;> simp [descK] at h2
          exact h1
        rw [← hxr] at e
        obtain ⟨rfl, c, v, rfl, h1, h2⟩ := binA_sim (P := P) (t := t) (x := x) (y := y) (fun _ _ _ _ => hu) hx hy e
        exact OpSim.val R h1 (AR.ofC h2)
      · exact (eval_fail e).elim
    · rename_i cs hxr
      obtain ⟨d, hd, T, e⟩ := withT_eval hX e
      rw [hxr] at hx
      obtain ⟨rfl, c, v, rfl, h1, h2⟩ := eqA_sim (P := P) (x := x) (y := y) T hx hy e
      exact OpSim.val R h1 (AR.ofC h2)
    · rename_i ty1 l1 tk hxr
      obtain ⟨d, hd, T, e⟩ := withT_eval hX e
      rw [hxr] at hx
      obtain ⟨rfl, c, v, rfl, h1, h2⟩ := nilA_sim (P := P) (x := x) (y := y) T hx hy e
      exact OpSim.val R h1 (AR.ofC h2)
    · rename_i hnb _ _
      obtain ⟨rfl, c, v, rfl, h1, h2⟩ := binA_sim (P := P) (t := t) (x := x) (y := y) (fun b _ hb _ => absurd hb (hnb b)) hx hy e
      exact OpSim.val R h1 (AR.ofC h2)
  case unOp op t x =>
    obtain ⟨rfl, c, v, rfl, h1, h2⟩ := unA_sim (P := P) (rho_AR he x) e
    exact OpSim.val R h1 (AR.ofC h2)
  case convert src dst x =>
    obtain ⟨d1, hd1, T1, e⟩ := withT_eval hX e
    obtain ⟨d, hd, T, e⟩ := withT_eval hX e
    have hx := rho_AR he x
    split at e
    · rename_i k k' n hdd hxr
      rw [hxr] at hx
      have hxv := hx.c
      simp only [CR] at hxv
      obtain ⟨rfl, rfl, _⟩ := eval_retI e
      obtain ⟨y, hy, _⟩ := T1.under
      refine OpSim.val R (v := .int k (k.wrap n)) ?_ (AR.ofC rfl)
      simp [convert, run_underlying hy, run_underlying (T.int hdd), hxv, Conv.intToInt]
    · rename_i c0 hdd hxr
      rw [hxr] at hx
      split at e
      · rename_i te hs
        obtain ⟨de, hde, Te, e⟩ := withT_eval hX e
        split at e
        · rename_i hu8
          obtain ⟨c', L1, e, hc'⟩ := freezeC_false R hx.c e
          split at e
          · rename_i l tk
            obtain ⟨rfl, rfl, _⟩ := eval_retC e
            exact OpSim.val R (bytes_sim (T1.slice hs) (Te.int hu8) (T.string hdd) hc'.1) (AR.ofC rfl)
          · obtain ⟨rfl, rfl, _⟩ := eval_retC e
            simp only [CR] at hc'
            have hr := run_convert_bytes_nil (P := P) w src te (T1.slice hs) (Te.int hu8) 0 0 dst (T.string hdd)
            rw [← hc'] at hr
            exact OpSim.val R hr (AR.ofC rfl)
          · exact (eval_fail e).elim
        · exact (eval_fail e).elim
      · exact (eval_fail e).elim
    · exact (eval_fail e).elim
  case makeFunc fn first captured =>
    cases fn <;> simp only at e <;> try (exact (eval_fail e).elim)
    rename_i f
    split at e
    · rename_i ids h0 hids
      obtain ⟨rfl, rfl, _⟩ := eval_retC e
      have hf : first = #[] := Array.eq_empty_of_size_eq_zero h0
      have := closOf_sim R he captured.toList ids (by simpa using hids)
      refine OpSim.pure R (v := .func (.func f) #[] (captured.map a.eval)) (by simp [Instr.makeFunc, hf]) (AR.ofC ⟨_, rfl, by simpa using this⟩)
    · exact (eval_fail e).elim
  case makeSlice t l c =>
    obtain ⟨d, hd, T, e⟩ := withT_eval hX e
    split at e
    · rename_i te hdd
      obtain ⟨de, hde, Te, e⟩ := withT_eval hX e
      split at e
      · rename_i hc
        simp only [Bool.and_eq_true] at hc
        have hpos : 0 < de.size := by have := hc.2; simpa [Nat.blt_eq] using this
        obtain ⟨τ, hτ, e⟩ := withTy_eval e
        have hl := rho_AR he l
        have hcc := rho_AR he c
        split at e
        · rename_i k n hso hlr
          obtain ⟨n', hn', e⟩ := eval_opt e
          obtain ⟨rfl, rfl, _⟩ := eval_retC (eval_set e)
          have hlc : l = c := by
            unfold sameOp at hso
            split at hso
            · rw [Nat.eq_of_beq_eq_true hso]
            · cases hso
          subst hlc
          rw [hlr] at hl
          have hl := hl.c
          simp only [CR] at hl
          refine (?_ : OpSim P w0 Z0 Zp _ g w new (Instr.makeSlice t (a.eval l) (a.eval l) >>= fun x => Pure.pure (Next.value x)) _ _)
          rw [hl]
          exact make_sim R hn T Te hdd hc.1 hτ hpos hn'
        · rename_i k k' n hso hlr hcr
          obtain ⟨n', hn', e⟩ := eval_opt e
          obtain ⟨rfl, rfl, _⟩ := eval_retC (eval_set e)
          rw [hlr] at hl
          rw [hcr] at hcc
          have hl := hl.c
          have hcc := hcc.c
          simp only [CR] at hl hcc
          refine (?_ : OpSim P w0 Z0 Zp _ g w new (Instr.makeSlice t (a.eval l) (a.eval c) >>= fun x => Pure.pure (Next.value x)) _ _)
          rw [hl, hcc]
          exact make0_sim R hn T Te hdd hc.1 hτ hn'
        · exact (eval_fail e).elim
      · exact (eval_fail e).elim
    · exact (eval_fail e).elim
  case slice t x lo hi mx =>
    obtain ⟨d, hd, T, e⟩ := withT_eval hX e
    obtain ⟨u, g', h1, h2, h3, h4, h5⟩ := sliceM_sim hX R T (rho_AR he x) (optRel_map he lo) (optRel_map he hi) (optRel_map he mx) e
    exact ⟨_, u, w, g', by simp [h1], .inl rfl, h2, h3, h5, fun o ho => .inl (h4 ▸ ho)⟩
  case fieldAddr s x j =>
    obtain ⟨d, hd, T, e⟩ := withT_eval hX e
    split at e
    · rename_i f hf
      obtain ⟨df, hdf, Tf, e⟩ := withT_eval hX e
      split at e
      · rename_i hpos
        have hpos : 0 < df.size := by simpa [Nat.blt_eq] using hpos
        obtain ⟨rfl, b, off, hv, har⟩ := ptrAdd_sim (rho_AR he x) e
        unfold fieldOff at hf
        split at hf
        · rename_i fs hdd
          obtain ⟨ff, hu, hfs⟩ := T.struct hdd
          rw [← hfs, List.getElem?_map] at hf
          cases hfj : ff.toList[j]? with
          | none => simp [hfj] at hf
          | some q =>
            simp only [hfj, Option.map_some, Option.some.injEq] at hf
            subst hf
            have hq : ff[j]? = some q := by simpa using hfj
            refine OpSim.val R (v := .pointer (some ⟨b, off + q.offset, none⟩)) ?_ har
            simp [Instr.fieldAt, run_underlying hu, hq, hv, Instr.sureAddr, fieldPlace_run Tf hpos]
        · cases hf
      · exact (eval_fail e).elim
    · exact (eval_fail e).elim
  case field s x j =>
    obtain ⟨d, hd, T, e⟩ := withT_eval hX e
    split at e
    · rename_i f hf
      obtain ⟨df, hdf, Tf, e⟩ := withT_eval hX e
      have hx := rho_AR he x
      split at e
      · rename_i cs hxr
        rw [hxr] at hx
        obtain ⟨vs, hv, hcs⟩ := hx.agg
        obtain ⟨rfl, u, h1, h2⟩ := part_sim (P := P) Tf hcs e
        unfold fieldOff at hf
        split at hf
        · rename_i fs hdd
          obtain ⟨ff, hu, hfs⟩ := T.struct hdd
          rw [← hfs, List.getElem?_map] at hf
          cases hfj : ff.toList[j]? with
          | none => simp [hfj] at hf
          | some q =>
            simp only [hfj, Option.map_some, Option.some.injEq] at hf
            subst hf
            have hq : ff[j]? = some q := by simpa using hfj
            refine OpSim.val R (v := u) ?_ h2
            simp [Instr.field, run_underlying hu, hq, hv, asAgg, h1]
        · cases hf
      · exact (eval_fail e).elim
    · exact (eval_fail e).elim
  case indexAddr t x ix =>
    obtain ⟨d, hd, T, e⟩ := withT_eval hX e
    obtain ⟨rfl, u, h1, h2⟩ := indexAddr_sim hX R T (rho_AR he x) (rho_AR he ix) e
    exact OpSim.val R h1 h2
  case index t x ix =>
    obtain ⟨d, hd, T, e⟩ := withT_eval hX e
    have hx := rho_AR he x
    have hi := rho_AR he ix
    unfold indexM at e
    split at e
    · rename_i s k i hdd hxr hir
      rw [hxr] at hx
      rw [hir] at hi
      have hxv := hx.c
      have hiv := hi.c
      simp only [CR] at hxv hiv
      obtain ⟨n, hn2, e⟩ := eval_opt e
      obtain ⟨rfl, rfl, _⟩ := eval_retI e
      obtain ⟨h0, b, hb, rfl⟩ := idxS_some hn2
      refine OpSim.val R (v := .int .u8 b.toNat) ?_ (AR.ofC rfl)
      have hlt : i.toNat < s.length := (List.getElem?_eq_some_iff.1 hb).1
      have hb2 : (⟨s.toArray⟩ : ByteArray)[i.toNat]? = some b := by
        rw [getElem?_pos (⟨s.toArray⟩ : ByteArray) i.toNat (by rw [str_size]; exact hlt)]
        have := (List.getElem?_eq_some_iff.1 hb).2
        rw [← this]
        rfl
      simp [Instr.index, hxv, hiv, asIntOf, run_underlying (T.string hdd), h0, hb2]
    · exact (eval_fail e).elim
  case extract x j =>
    obtain ⟨rfl, u, h1, h2⟩ := extract_sim (P := P) (rho_AR he x) e
    exact OpSim.val R h1 h2
  case call c =>
    simp only [callsF] at hcall
    split at e
    · rename_i b hcc
      have := builtin_sim (cs := (c.args.map fun | .const _ => true | _ => false)) hX R hn he (ty := o.type) e
      obtain ⟨n, v, w', g', h1, h2⟩ := this
      exact ⟨n, v, w', g', by simp only [resolve, hcc, Sem.run_bind, Sem.run_pure, Result.andThen_ok, invoke]; exact h1, h2⟩
    · rename_i f hcc
      rw [hcc] at hcall; cases hcall
    · exact (eval_fail e).elim
  all_goals exact (eval_fail e).elim

end
end Go.Am
