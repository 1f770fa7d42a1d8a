import Derived.Test.YtfafklfpikjheaaGreatP10
import Derived.Test.YtfafklfpikjheaaGreatA7
set_option linter.unusedVariables false
set_option linter.unusedSimpArgs false
/- Plain laws: what typed data within bounds say of blocks, frames and pairs; BlockRuns and BlockPasses. -/
namespace Go.Am.Pu
open Go Go.Am

abbrev TL8 : Ty := .sl (.int .i8)
abbrev TL64 : Ty := .sl (.int .i64)
abbrev TN : Ty := .int .i64
abbrev TBlo : Ty := .pair TL8 (.pair TL8 (.pair TL8 (.pair TL8 (.pair TL8 (.pair TL8 (.pair TN (.pair TN (.pair TN (.pair TN (.pair TN (.pair TL8 (.pair TL8 (.pair TL8 (.pair TN (.pair TN TN)))))))))))))))
abbrev TFrm : Ty := .pair TN (.pair TL8 (.pair TL8 TL8))
abbrev TPair : Ty := .pair TL8 TL8
abbrev TGiven : Ty := .pair TBlo (.pair TFrm (.sl TPair))

theorem sum_ge {α : Type} {f : α → Nat} (h : ∀ x, 1 ≤ f x) : ∀ l : List α, l.length ≤ (l.map f).sum
  | [] => by simp
  | x :: l => by
    have := sum_ge h l
    have := h x
    simp; omega
theorem sum_mem {α : Type} {f : α → Nat} : ∀ {l : List α} {x : α}, x ∈ l → f x ≤ (l.map f).sum
  | y :: l, x, h => by
    rcases List.mem_cons.1 h with rfl | h
    · simp
    · have := sum_mem (f := f) h
      simp; omega
theorem bulk_lens {e : Ty} (he : ∀ x : e.den, 1 ≤ bulkT e x) (l : List e.den) : l.length + 1 ≤ bulkT (.sl e) l := by
  have := sum_ge (f := bulkT e) he l
  show _ ≤ 1 + (l.map (bulkT e)).sum
  omega
theorem bulk_mem {e : Ty} {l : List e.den} {x : e.den} (h : x ∈ l) : bulkT e x ≤ bulkT (.sl e) l := by
  have := sum_mem (f := bulkT e) h
  show _ ≤ 1 + (l.map (bulkT e)).sum
  omega
theorem bulk8 (l : List Int) : l.length + 1 ≤ bulkT TL8 l := bulk_lens (e := .int .i8) (fun _ => Nat.le_refl 1) l
theorem bulk64 (l : List Int) : l.length + 1 ≤ bulkT TL64 l := bulk_lens (e := .int .i64) (fun _ => Nat.le_refl 1) l

theorem wf_8 {l : List Int} (h : wfT TL8 l) : all8 l := fun x hx => h x hx
theorem wf_64 {l : List Int} (h : wfT TL64 l) : all64 l := fun x hx => h x hx
theorem wf_B {b : Blo} (h : wfT TBlo b) : OkB b := ⟨wf_8 h.1, wf_8 h.2.1, wf_8 h.2.2.1, wf_8 h.2.2.2.1, wf_8 h.2.2.2.2.1, wf_8 h.2.2.2.2.2.1, wf_8 h.2.2.2.2.2.2.2.2.2.2.2.1, wf_8 h.2.2.2.2.2.2.2.2.2.2.2.2.1, wf_8 h.2.2.2.2.2.2.2.2.2.2.2.2.2.1⟩
theorem part17 {a0 a1 a2 a3 a4 a5 a6 a7 a8 a9 a10 a11 a12 a13 a14 a15 a16 : Nat} (h : a0 + (a1 + (a2 + (a3 + (a4 + (a5 + (a6 + (a7 + (a8 + (a9 + (a10 + (a11 + (a12 + (a13 + (a14 + (a15 + (a16)))))))))))))))) ≤ 1048576) : a0 ≤ 1048576 ∧ a1 ≤ 1048576 ∧ a2 ≤ 1048576 ∧ a3 ≤ 1048576 ∧ a4 ≤ 1048576 ∧ a5 ≤ 1048576 ∧ a11 ≤ 1048576 ∧ a12 ≤ 1048576 ∧ a13 ≤ 1048576 := by omega
theorem len8 {l : List Int} (h : bulkT TL8 l ≤ 1048576) : l.length ≤ 1000000000 := by
  have := bulk8 l
  omega
theorem blk_B {b : Blo} (h : bulkT TBlo b ≤ 1048576) : LenB b := by
  obtain ⟨h1, h2, h3, h4, h5, h6, h7, h8, h9⟩ := part17 (a0 := bulkT TL8 b.1) (a1 := bulkT TL8 b.2.1) (a2 := bulkT TL8 b.2.2.1) (a3 := bulkT TL8 b.2.2.2.1) (a4 := bulkT TL8 b.2.2.2.2.1) (a5 := bulkT TL8 b.2.2.2.2.2.1) (a6 := bulkT TN b.2.2.2.2.2.2.1) (a7 := bulkT TN b.2.2.2.2.2.2.2.1) (a8 := bulkT TN b.2.2.2.2.2.2.2.2.1) (a9 := bulkT TN b.2.2.2.2.2.2.2.2.2.1) (a10 := bulkT TN b.2.2.2.2.2.2.2.2.2.2.1) (a11 := bulkT TL8 b.2.2.2.2.2.2.2.2.2.2.2.1) (a12 := bulkT TL8 b.2.2.2.2.2.2.2.2.2.2.2.2.1) (a13 := bulkT TL8 b.2.2.2.2.2.2.2.2.2.2.2.2.2.1) (a14 := bulkT TN b.2.2.2.2.2.2.2.2.2.2.2.2.2.2.1) (a15 := bulkT TN b.2.2.2.2.2.2.2.2.2.2.2.2.2.2.2.1) (a16 := bulkT TN b.2.2.2.2.2.2.2.2.2.2.2.2.2.2.2.2) h
  exact ⟨len8 h1, len8 h2, len8 h3, len8 h4, len8 h5, len8 h6, len8 h7, len8 h8, len8 h9⟩
theorem blk_F {f : Frm} (h : bulkT TFrm f ≤ 1048576) : f.2.1.length ≤ 1000000000 ∧ f.2.2.1.length ≤ 1000000000 ∧ f.2.2.2.length ≤ 1000000000 := by
  have h : bulkT TN f.1 + (bulkT TL8 f.2.1 + (bulkT TL8 f.2.2.1 + bulkT TL8 f.2.2.2)) ≤ 1048576 := h
  have h1 := bulk8 f.2.1
  have h2 := bulk8 f.2.2.1
  have h3 := bulk8 f.2.2.2
  omega
theorem wf_F {f : Frm} (h : wfT TFrm f) (hb : bulkT TFrm f ≤ 1048576) : OkF f := ⟨wf_8 h.2.1, wf_8 h.2.2.1, wf_8 h.2.2.2, (blk_F hb).1, (blk_F hb).2.1⟩
theorem wf_P {l : Pairs} (h : wfT (.sl TPair) l) : ∀ p ∈ l, all8 p.1 ∧ all8 p.2 := fun p hp => ⟨wf_8 (h p hp).1, wf_8 (h p hp).2⟩
theorem pair_pos (x : TPair.den) : 1 ≤ bulkT TPair x := by
  have h1 := bulk8 x.1
  show 1 ≤ bulkT TL8 x.1 + bulkT TL8 x.2
  omega
theorem blk_P {l : Pairs} (h : bulkT (.sl TPair) l ≤ 1048576) : (∀ p ∈ l, p.1.length ≤ 1000000000 ∧ p.2.length ≤ 1000000000) ∧ l.length ≤ 1048576 := by
  refine ⟨fun p hp => ?_, ?_⟩
  · have h1 : bulkT TL8 p.1 + bulkT TL8 p.2 ≤ bulkT (.sl TPair) l := bulk_mem (e := TPair) (l := l) (x := p) hp
    have h2 := bulk8 p.1
    have h3 := bulk8 p.2
    omega
  · have := bulk_lens (e := TPair) pair_pos l
    exact Nat.le_trans (Nat.le_succ _) (Nat.le_trans this h)
theorem wf_X {l : List (List Int)} (h : wfT (.sl TL64) l) (hb : bulkT (.sl TL64) l ≤ 1048576) : (∀ x ∈ l, all64 x ∧ x.length ≤ 1000000000) ∧ l.length ≤ 1048576 := by
  refine ⟨fun x hx => ⟨wf_64 (h x hx), ?_⟩, ?_⟩
  · have h1 := bulk_mem (e := TL64) (l := l) (x := x) hx
    have h2 := bulk64 x
    omega
  · have := bulk_lens (e := TL64) (fun x => Nat.le_trans (Nat.le_add_left 1 _) (bulk64 x)) l
    exact Nat.le_trans (Nat.le_succ _) (Nat.le_trans this hb)

/-- what is given -/
structure OkG (g : Blo × Frm × Pairs) : Prop where
  b : OkB g.1
  f : OkF g.2.1
  p : ∀ p ∈ g.2.2, all8 p.1 ∧ all8 p.2
  lb : LenB g.1
  f1 : g.2.1.2.1.length ≤ 1000000000
  f2 : g.2.1.2.2.1.length ≤ 1000000000
  f3 : g.2.1.2.2.2.length ≤ 1000000000
  lp : ∀ p ∈ g.2.2, p.1.length ≤ 1000000000 ∧ p.2.length ≤ 1000000000
  l : g.2.2.length ≤ 1048576
theorem wf_G {g : Blo × Frm × Pairs} (h : wfT TGiven g) (hb : bulkT TGiven g ≤ 1048576) : OkG g := by
  have hb : bulkT TBlo g.1 + (bulkT TFrm g.2.1 + bulkT (.sl TPair) g.2.2) ≤ 1048576 := hb
  have b1 : bulkT TBlo g.1 ≤ 1048576 := by omega
  have b2 : bulkT TFrm g.2.1 ≤ 1048576 := by omega
  have b3 : bulkT (.sl TPair) g.2.2 ≤ 1048576 := by omega
  exact ⟨wf_B h.1, wf_F h.2.1 b2, wf_P h.2.2, blk_B b1, (blk_F b2).1, (blk_F b2).2.1, (blk_F b2).2.2, (blk_P b3).1, (blk_P b3).2⟩

theorem runs_of {n : Nat} (hn : 2000000000 ≤ n) (ha : F_law20_awake n () = some true) {g : Blo × Frm × Pairs} {x : List Int} {place : Int} (hg : OkG g) (hx : all64 x) (hxl : x.length ≤ 1000000000) : F_law20_BlockRuns n (g, x, place) = some true := by
  have hl := hg.l
  rw [F_law20_BlockRuns_eq, ha]
  simp only [Option.bind_some, brk_ite, Bool.not_true, Bool.false_eq_true, if_false]
  rw [law20_plain hg.lb hn, law20_frame hg.f1 hg.f2 hg.f3, law20_past hg.lp (by omega) hn, app_own hxl (by omega)]
  simp only [Option.bind_some]
  rw [block_Keys hg.b hg.f hxl hn, ref20_Keys hg.b hg.f hxl hn]
  simp only [Option.bind_some]
  have hk := keysI_len (b := g.1) (f := g.2.1) (x := x) (p := place)
  rw [law20_pair_refl (by omega) hn]
  simp only [Option.bind_some, Bool.not_true, Bool.false_eq_true, if_false, bne_self_eq_false]
  rw [block_Run hg.b hg.f hx hxl hg.p (by omega) hn, ref20_Run hg.b hg.f hx hxl hg.p (by omega) hn]
  simp only [Option.bind_some]
  have hr := runI_len (b := g.1) (f := g.2.1) (x := x) (past := g.2.2)
  rw [law20_row_int64_refl (by omega) hn]
  simp only [Option.bind_some, beq_self_eq_true, if_true]
  rw [law20_row_int64_refl hxl hn]
  simp only [Option.bind_some, if_true]
  rw [law20_Given_stays hg.lb hg.f1 hg.f2 hg.f3 hg.lp (by omega) hn]
  rfl

theorem blockRuns_plain (x : (Ty.pair TGiven (.pair TL64 TN)).den) (h : wfT (.pair TGiven (.pair TL64 TN)) x) (hb : bulkT (.pair TGiven (.pair TL64 TN)) x ≤ 1048576) : ∃ n, F_law20_BlockRuns n x = some true := by
  have hb : bulkT TGiven x.1 + (bulkT TL64 x.2.1 + bulkT TN x.2.2) ≤ 1048576 := hb
  have h1 := bulk64 x.2.1
  exact ⟨2000000000, runs_of (Nat.le_refl _) law20_awake (g := x.1) (x := x.2.1) (place := x.2.2) (wf_G h.1 (by omega)) (wf_64 h.2.1) (by omega)⟩

end Go.Am.Pu
