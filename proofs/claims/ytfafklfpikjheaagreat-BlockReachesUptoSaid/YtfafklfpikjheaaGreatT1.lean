import Derived.RangeFuncBox
import Derived.RangeFuncLeaves
import Derived.RangeFuncCalls
import Derived.Shelf.Abstract
import Derived.Shelf.RegionOpen
import Derived.WalkKit
import Derived.OwnWalkIn
import Derived.TacticsInMore
import Derived.LoopNIn
import Derived.LoopIn
import Derived.Maps.AppendAt
import Derived.Test.YtfafklfpikjheaaGreatProg
set_option linter.unusedVariables false
set_option linter.unusedSimpArgs false
/- slices.Chunk's iterator has its contract. -/
namespace Go.Proofs
open Go.RowKit Go.Shelf

attribute [local go_sem] Oper.semAt_some

namespace Tryz
def upto {α : Type} (f : Nat → α) (k : Nat) : List α := (List.range k).map f
theorem upto_succ {α : Type} (f : Nat → α) (k : Nat) : upto f (k + 1) = upto f k ++ [f k] := by simp [upto, List.range_succ]
theorem upto_length {α : Type} (f : Nat → α) (k : Nat) : (upto f k).length = k := by simp [upto]

def KpC (Bs Bn : Nat) (W W' : World) : Prop := W'.heap[Bs]? = W.heap[Bs]? ∧ W'.heap[Bn]? = W.heap[Bn]?
theorem KpC.refl (Bs Bn : Nat) (W : World) : KpC Bs Bn W W := ⟨rfl, rfl⟩
theorem KpC.trans {Bs Bn : Nat} {A B C : World} (h : KpC Bs Bn A B) (k : KpC Bs Bn B C) : KpC Bs Bn A C := ⟨k.1.trans h.1, k.2.trans h.2⟩

theorem grown_drew (w : World) : w.grownBy w.drew none := ⟨rfl, rfl, rfl, Nat.le_refl _, fun _ _ _ => rfl⟩
/-- how many pieces -/
def pcs (len sz : Nat) : Nat := (len + sz - 1) / sz
theorem lt_pcs {len sz k : Nat} (h : 1 ≤ sz) : k < pcs len sz ↔ k * sz < len := by
  unfold pcs
  rw [Nat.lt_div_iff_mul_lt (by omega)]
  omega

set_option maxRecDepth 100000 in
set_option maxHeartbeats 2000000 in
theorem chunk1_in {α : Type} (F : Fence) (n : Nat) (h7 : F.fn 115) (hro : F.round = none) (hn : 1 ≤ n) (l Bs Bn b off len cap sz : Nat) (hlc : len ≤ cap) (hlen : len ≤ 1000000000) (hsz1 : 1 ≤ sz) (hsz2 : sz ≤ 1000000000000) (enc : α → Value) (f : Nat → α)
    (hf : ∀ j, j * sz < len → enc (f j) = .slice (some ⟨b, off + j * sz, none⟩) (min sz (len - j * sz)) (min sz (len - j * sz))) (J Jx : List α → World → Prop) (B : Nat) (hJ : AbidesFrom B J)
    (hY : ∀ pre x W, J pre W → pre.length < pcs len sz → YieldAt F (n - 1) Tryz.prog l #[enc x] W fun e W' =>
      (e = .returned (.bool true) ∧ J (pre ++ [x]) W' ∧ KpC Bs Bn W W') ∨ (e = .returned (.bool false) ∧ Jx (pre ++ [x]) W'))
    (W : World) (hBs : W.cell? ⟨Bs, 0, none⟩ = some (.slice (some ⟨b, off, none⟩) len cap)) (hBn : W.cell? ⟨Bn, 0, none⟩ = some (.int .i64 sz)) (h0 : J [] W) :
    CallsIn F n Tryz.prog 115 #[.func (.yield l) #[] #[], .pointer (some ⟨Bs, 0, none⟩), .pointer (some ⟨Bn, 0, none⟩)] W fun e W' => (∃ v, e = .returned v) ∧
      ((∃ ys, ys = upto f (pcs len sz) ∧ J ys W') ∨ (∃ pre, True ∧ Jx pre W')) := by
  refine callsIn_of_wp Tryz.func115 rfl h7 ?_ hro
  simp only [Tryz.ntmps115, List.size_toArray, List.length_cons, List.length_nil, Nat.reduceAdd, Nat.reduceSub, Array.replicate_succ, Array.replicate_zero, List.push_toArray, List.append_toArray, List.nil_append, List.cons_append]
  gi_wp2
  gi_loopw [4] (fun i wr => ∃ k p : Nat, Hid (p = k * sz) ∧ k ≤ pcs len sz ∧ i = .int .i64 (p : Int) ∧ J (upto f k) wr ∧ KpC Bs Bn W wr)
    (fun i _ => len + 1000000000000 - (intOf i).toNat)
  case atStart => exact ⟨0, 0, by simp [Hid], Nat.zero_le _, rfl, h0, KpC.refl _ _ _⟩
  case round =>
    obtain ⟨k, p, hp, hk, rfl, hJs, hnx⟩ := hrel
    have hc1 : wr.cell? ⟨Bs, 0, none⟩ = some (.slice (some ⟨b, off, none⟩) len cap) := (World.cell?_of_block hnx.1).trans hBs
    have hc2 : wr.cell? ⟨Bn, 0, none⟩ = some (.int .i64 sz) := (World.cell?_of_block hnx.2).trans hBn
    have hmx : Tryz.prog.follows .mixedOrders = true := by kernel_rfl
    by_cases hlt : p < len
    · have hkl : k < pcs len sz := (lt_pcs hsz1).2 (hp.out ▸ hlt)
      have hJd : J (upto f k) wr.drew := hJ _ _ _ none hJs (grown_drew wr) (fun r h => by cases h)
      have hnd : KpC Bs Bn W wr.drew := hnx.trans ⟨rfl, rfl⟩
      obtain ⟨fn, tmps, assign, body, hy, hR⟩ := hY _ (f k) wr.drew hJd (by rw [upto_length]; exact hkl)
      rw [hf k (hp.out ▸ hlt), ← hp.out] at hy
      have go : ∀ e W3, (e = Ending.returned (.bool true) ∧ J (upto f k ++ [f k]) W3 ∧ KpC Bs Bn wr.drew W3 ∨ e = .returned (.bool false) ∧ Jx (upto f k ++ [f k]) W3) →
          (e = .returned (.bool true) ∧ J (upto f (k + 1)) W3 ∧ KpC Bs Bn W W3 ∧ W3.cell? ⟨Bn, 0, none⟩ = some (.int .i64 sz)) ∨ (e = .returned (.bool false) ∧ ∃ pre, Jx pre W3) := by
        rintro e W3 (⟨rfl, h1, h2⟩ | ⟨rfl, h1⟩)
        · exact .inl ⟨rfl, by rw [upto_succ]; exact h1, hnd.trans h2, (World.cell?_of_block (hnd.trans h2).2).trans hBn⟩
        · exact .inr ⟨rfl, _, h1⟩
      replace hR := hR.mono go
      clear go
      have hp1 : Hid (p + sz = (k + 1) * sz) := by
        show p + sz = (k + 1) * sz
        rw [hp.out, Nat.succ_mul]
      by_cases hle : sz ≤ len - p
      · rw [Nat.min_eq_left hle] at hy
        gi_wp2
        gi_region_o
        all_goals gi_wp2
        all_goals (try go_bits)
        all_goals refine hR.mono ?_
        all_goals rintro e W3 (⟨rfl, hJ3, hk3, hc3⟩ | ⟨rfl, pre, hJx3⟩)
        all_goals gi_wp2
        all_goals first
          | (go_roundw
             case rel => exact ⟨k + 1, p + sz, hp1, hkl, by simp, hJ3, hk3⟩
             case measure => simp [intOf]; omega)
          | (refine bodyPost_ret (results_none rfl _ _ _) rfl ?_
             exact ⟨⟨_, rfl⟩, .inr ⟨_, trivial, hJx3⟩⟩)
      · have hlt2 : len - p < sz := by omega
        rw [Nat.min_eq_right (by omega)] at hy
        gi_wp2
        gi_region_o
        all_goals gi_wp2
        all_goals (try go_bits)
        all_goals refine hR.mono ?_
        all_goals rintro e W3 (⟨rfl, hJ3, hk3, hc3⟩ | ⟨rfl, pre, hJx3⟩)
        all_goals gi_wp2
        all_goals first
          | (go_roundw
             case rel => exact ⟨k + 1, p + sz, hp1, hkl, by simp, hJ3, hk3⟩
             case measure => simp [intOf]; omega)
          | (refine bodyPost_ret (results_none rfl _ _ _) rfl ?_
             exact ⟨⟨_, rfl⟩, .inr ⟨_, trivial, hJx3⟩⟩)
    · have hkl : ¬ k < pcs len sz := fun h => hlt (hp.out ▸ (lt_pcs hsz1).1 h)
      obtain rfl : k = pcs len sz := by omega
      gi_wp2
      go_end0
      exact ⟨⟨_, rfl⟩, .inl ⟨_, rfl, hJs⟩⟩

set_option maxRecDepth 100000 in
set_option maxHeartbeats 2000000 in
/-- .. of nothing -/
theorem chunk0_in {α : Type} (F : Fence) (n : Nat) (h7 : F.fn 115) (hro : F.round = none) (l Bs Bn : Nat) (a : Option Addr) (cap : Nat) (sz : Nat) (J : List α → World → Prop)
    (W : World) (hBs : W.cell? ⟨Bs, 0, none⟩ = some (.slice a 0 cap)) (hBn : W.cell? ⟨Bn, 0, none⟩ = some (.int .i64 sz)) (h0 : J [] W) :
    CallsIn F n Tryz.prog 115 #[.func (.yield l) #[] #[], .pointer (some ⟨Bs, 0, none⟩), .pointer (some ⟨Bn, 0, none⟩)] W fun e W' => (∃ v, e = .returned v) ∧ J [] W' := by
  refine callsIn_of_wp Tryz.func115 rfl h7 ?_ hro
  simp only [Tryz.ntmps115, List.size_toArray, List.length_cons, List.length_nil, Nat.reduceAdd, Nat.reduceSub, Array.replicate_succ, Array.replicate_zero, List.push_toArray, List.append_toArray, List.nil_append, List.cons_append]
  gi_wp2
  gi_loopw [4] (fun i wr => i = .int .i64 0 ∧ J [] wr ∧ wr.cell? ⟨Bs, 0, none⟩ = some (.slice a 0 cap)) (fun _ _ => 0)
  case atStart => exact ⟨rfl, h0, hBs⟩
  case round =>
    obtain ⟨rfl, hJs, hc1⟩ := hrel
    gi_wp2
    go_end0
    exact ⟨⟨_, rfl⟩, hJs⟩

theorem pcs_zero (sz : Nat) (h : 1 ≤ sz) : pcs 0 sz = 0 := Nat.div_eq_of_lt (by omega)

theorem chunk_stops {α : Type} (F : Fence) (n : Nat) (h7 : F.fn 115) (hro : F.round = none) (hn : 1 ≤ n) (Bs Bn : Nat) (a : Option Addr) (len cap sz : Nat) (hlc : len ≤ cap) (hlen : len ≤ 1000000000) (hsz1 : 1 ≤ sz) (hsz2 : sz ≤ 1000000000000) (enc : α → Value) (f : Nat → α)
    (hf : len = 0 ∨ ∃ b off, a = some ⟨b, off, none⟩ ∧ ∀ j, j * sz < len → enc (f j) = .slice (some ⟨b, off + j * sz, none⟩) (min sz (len - j * sz)) (min sz (len - j * sz)))
    (w : World) (hBs : Bs < w.heap.size) (hBn : Bn < w.heap.size) (hcs : w.cell? ⟨Bs, 0, none⟩ = some (.slice a len cap)) (hcn : w.cell? ⟨Bn, 0, none⟩ = some (.int .i64 sz)) :
    SeqStopsK F n Tryz.prog 115 #[.pointer (some ⟨Bs, 0, none⟩), .pointer (some ⟨Bn, 0, none⟩)] (fun x : α => #[enc x]) (KpC Bs Bn) (fun ys => ys = upto f (pcs len sz)) (fun _ => True) (pcs len sz) w := fun l J Jx W hW hJ _ hY h0 => by
  have hcs' := (hW.cell (p := ⟨Bs, 0, none⟩) hBs).trans hcs
  have hcn' := (hW.cell (p := ⟨Bn, 0, none⟩) hBn).trans hcn
  rcases hf with rfl | ⟨b, off, rfl, hf⟩
  · refine (chunk0_in F n h7 hro l Bs Bn a cap sz J W hcs' hcn' h0).mono fun e W' ⟨he, hj⟩ => ⟨he, .inl ⟨_, rfl, ?_⟩⟩
    rw [pcs_zero sz hsz1]; exact hj
  · exact chunk1_in F n h7 hro hn l Bs Bn b off len cap sz hlc hlen hsz1 hsz2 enc f hf J Jx _ hJ hY W hcs' hcn' h0

set_option maxRecDepth 100000 in
set_option maxHeartbeats 1000000 in
/-- slices.Chunk: both boxed; the function value captures the boxes -/
theorem chunk_in (F : Fence) (n : Nat) (h5 : F.fn 95) (hro : F.round = none) (a : Option Addr) (len cap sz : Nat) (hsz1 : 1 ≤ sz) (hsz2 : sz ≤ 1000000000000) (w : World) :
    CallsIn F n Tryz.prog 95 #[.slice a len cap, .int .i64 sz] w fun e w' => e = .returned (.func (.func 115) #[] #[.pointer (some ⟨w.heap.size, 0, none⟩), .pointer (some ⟨w.heap.size + 1, 0, none⟩)]) ∧ w' = (w.alloc (.cells #[.slice a len cap] 22)).alloc (.cells #[.int .i64 sz] 3) := by
  refine callsIn_of_wp Tryz.func95 rfl h5 ?_ hro
  simp only [Tryz.ntmps95, List.size_toArray, List.length_cons, List.length_nil, Nat.reduceAdd, Nat.reduceSub, Array.replicate_succ, Array.replicate_zero, List.push_toArray, List.append_toArray, List.nil_append, List.cons_append]
  gi_wp2
  go_ret
  exact ⟨by simp, rfl⟩
end Tryz
end Go.Proofs
