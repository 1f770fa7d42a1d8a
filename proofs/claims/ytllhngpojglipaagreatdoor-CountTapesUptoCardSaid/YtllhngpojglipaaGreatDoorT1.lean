import Derived.RangeFuncBox
import Derived.RangeFuncLeaves
import Derived.RangeFuncCalls
import Derived.Shelf.Abstract
import Derived.Shelf.RegionOpen
import Derived.WalkKit
import Derived.OwnWalkIn
import Derived.TacticsInMore
import Derived.LoopNIn
import Derived.LoopIn
import Derived.Maps.AppendAt
import Derived.Test.YtllhngpojglipaaGreatDoorProg
import Derived.Test.YtllhngpojglipaaGreatDoorGT
import Derived.RangeFuncNested
import Derived.Test.YtllhngpojglipaaGreatDoorA9
set_option linter.unusedVariables false
set_option linter.unusedSimpArgs false
open Array renaming getElem?_toList→cG
open Bool renaming and_eq_true→aj
open Int renaming toNat_natCast→ax
open Go.IntKind renaming i64→bw
open List renaming cons_append→eJ,getElem?_take→dh,length_cons→aZ,length_map→di,length_nil→dz,length→ae,map_append→eI,map_cons→cj,nil_append→bE,size_toArray→ek
open Nat renaming add_assoc→fu,le_mul_of_pos_right→cB,le_refl→aA,le_trans→eA,lt_of_lt_of_le→ca
open Go.Value renaming int→bq
open Go.World renaming cell?_of_block→bW
set_option linter.unusedVariables false
namespace Go.Proofs
open Go.RowKit Go.Shelf Go.Am
attribute [local go_sem] Oper.semAt_some
namespace Tryz
theorem arf{α:Type}(f:Nat→α)(k:Nat):upto f (k+1)=upto f k++[f k]:=by simp[upto,List.range_succ]
theorem al3{α:Type}(f:Nat→α)(k:Nat):(upto f k).length=k:=by simp[upto]
def KpC(Bs Bn:Nat)(W W':World):Prop:=W'.heap[Bs]? =W.heap[Bs]? ∧W'.heap[Bn]? =W.heap[Bn]?
theorem KpC.refl(Bs Bn:Nat)(W:World):KpC Bs Bn W W:=⟨rfl,rfl⟩
theorem KpC.trans{Bs Bn:Nat}{A B C:World}(h:KpC Bs Bn A B)(k:KpC Bs Bn B C):KpC Bs Bn A C:=⟨k.1.trans h.1,k.2.trans h.2⟩
theorem aoB(w:World):w.grownBy w.drew none:=⟨rfl,rfl,rfl,aA _,fun _ _ _=>rfl⟩
theorem PS{len sz k:Nat}(h:1≤sz):k<pcs len sz↔k*sz<len:=by
 unfold pcs;rw[Nat.lt_div_iff_mul_lt (by omega)];omega
set_option maxRecDepth 100000 in
set_option maxHeartbeats 2000000 in
theorem arh {α : Type} (F : Fence) (n : Nat) (h7 : F.fn 263) (hro : F.round = none) (hn : 1 ≤ n) (l Bs Bn b off len cap sz : Nat) (hlc : len ≤ cap) (hlen : len ≤ 1000000000) (Ro : 1 ≤ sz) (ayJ : sz ≤ 1000000000000) (enc : α → Value) (f : Nat → α)
    (hf : ∀ j, j * sz < len → enc (f j) = .slice (some ⟨b, off + j * sz, none⟩) (min sz (len - j * sz)) (min sz (len - j * sz))) (J Jx : List α → World → Prop) (B : Nat) (hJ : AbidesFrom B J)
    (hY : ∀ pre x W, J pre W → pre.length < pcs len sz → YieldAt F (n - 1) Tryz.prog l #[enc x] W fun e W' =>
      (e = .returned (.bool true) ∧ J (pre ++ [x]) W' ∧ KpC Bs Bn W W') ∨ (e = .returned (.bool false) ∧ Jx (pre ++ [x]) W'))
    (W : World) (hBs : W.cell? ⟨Bs, 0, none⟩ = some (.slice (some ⟨b, off, none⟩) len cap)) (hBn : W.cell? ⟨Bn, 0, none⟩ = some (.int .i64 sz)) (h0 : J [] W) :
    CallsIn F n Tryz.prog 263 #[.func (.yield l) #[] #[], .pointer (some ⟨Bs, 0, none⟩), .pointer (some ⟨Bn, 0, none⟩)] W fun e W' => (∃ v, e = .returned v) ∧
      ((∃ ys, ys = upto f (pcs len sz) ∧ J ys W') ∨ (∃ pre, True ∧ Jx pre W')) := by
  refine callsIn_of_wp Tryz.func263 rfl h7 ?_ hro
  simp only [Tryz.ntmps263, ek, aZ, dz, Nat.reduceAdd, Nat.reduceSub, Array.replicate_succ, Array.replicate_zero, List.push_toArray, List.append_toArray, bE, eJ]
  gi_wp2
  gi_loopw [4] (fun i wr => ∃ k p : Nat, Hid (p = k * sz) ∧ k ≤ pcs len sz ∧ i = .int .i64 (p : Int) ∧ J (upto f k) wr ∧ KpC Bs Bn W wr)
    (fun i _ => len + 1000000000000 - (intOf i).toNat)
  case atStart => exact ⟨0, 0, by simp [Hid], Nat.zero_le _, rfl, h0, KpC.refl _ _ _⟩
  case round =>
    obtain ⟨k, p, hp, hk, rfl, hJs, hnx⟩ := hrel
    have YZ : wr.cell? ⟨Bs, 0, none⟩ = some (.slice (some ⟨b, off, none⟩) len cap) := (bW hnx.1).trans hBs
    have Nf : wr.cell? ⟨Bn, 0, none⟩ = some (.int .i64 sz) := (bW hnx.2).trans hBn
    have Va : Tryz.prog.follows .mixedOrders = true := by kernel_rfl
    by_cases hlt : p < len
    · have hkl : k < pcs len sz := (PS Ro).2 (hp.out ▸ hlt)
      have hJd : J (upto f k) wr.drew := hJ _ _ _ none hJs (aoB wr) (fun r h => by cases h)
      have hnd : KpC Bs Bn W wr.drew := hnx.trans ⟨rfl, rfl⟩
      obtain ⟨fn, tmps, assign, body, hy, hR⟩ := hY _ (f k) wr.drew hJd (by rw [al3]; exact hkl)
      rw [hf k (hp.out ▸ hlt), ← hp.out] at hy
      have go : ∀ e W3, (e = Ending.returned (.bool true) ∧ J (upto f k ++ [f k]) W3 ∧ KpC Bs Bn wr.drew W3 ∨ e = .returned (.bool false) ∧ Jx (upto f k ++ [f k]) W3) →
          (e = .returned (.bool true) ∧ J (upto f (k + 1)) W3 ∧ KpC Bs Bn W W3 ∧ W3.cell? ⟨Bn, 0, none⟩ = some (.int .i64 sz)) ∨ (e = .returned (.bool false) ∧ ∃ pre, Jx pre W3) := by
        rintro e W3 (⟨rfl, h1, h2⟩ | ⟨rfl, h1⟩)
        · exact .inl ⟨rfl, by rw [arf]; exact h1, hnd.trans h2, (bW (hnd.trans h2).2).trans hBn⟩
        · exact .inr ⟨rfl, _, h1⟩
      replace hR := hR.mono go
      clear go
      have hp1 : Hid (p + sz = (k + 1) * sz) := by
        show p + sz = (k + 1) * sz
        rw [hp.out, Nat.succ_mul]
      by_cases hle : sz ≤ len - p
      · rw [Nat.min_eq_left hle] at hy
        gi_wp2
        gi_region_o
        all_goals gi_wp2
        all_goals (try go_bits)
        all_goals refine hR.mono ?_
        all_goals rintro e W3 (⟨rfl, hJ3, hk3, hc3⟩ | ⟨rfl, pre, ayK⟩)
        all_goals gi_wp2
        all_goals first
          | (go_roundw
             case rel => exact ⟨k + 1, p + sz, hp1, hkl, by simp, hJ3, hk3⟩
             case measure => simp [intOf]; omega)
          | (refine bodyPost_ret (results_none rfl _ _ _) rfl ?_
             exact ⟨⟨_, rfl⟩, .inr ⟨_, trivial, ayK⟩⟩)
      · have aH7 : len - p < sz := by omega
        rw [Nat.min_eq_right (by omega)] at hy
        gi_wp2
        gi_region_o
        all_goals gi_wp2
        all_goals (try go_bits)
        all_goals refine hR.mono ?_
        all_goals rintro e W3 (⟨rfl, hJ3, hk3, hc3⟩ | ⟨rfl, pre, ayK⟩)
        all_goals gi_wp2
        all_goals first
          | (go_roundw
             case rel => exact ⟨k + 1, p + sz, hp1, hkl, by simp, hJ3, hk3⟩
             case measure => simp [intOf]; omega)
          | (refine bodyPost_ret (results_none rfl _ _ _) rfl ?_
             exact ⟨⟨_, rfl⟩, .inr ⟨_, trivial, ayK⟩⟩)
    · have hkl : ¬ k < pcs len sz := fun h => hlt (hp.out ▸ (PS Ro).1 h)
      obtain rfl : k = pcs len sz := by omega
      gi_wp2
      go_end0
      exact ⟨⟨_, rfl⟩, .inl ⟨_, rfl, hJs⟩⟩
set_option maxRecDepth 100000 in
set_option maxHeartbeats 2000000 in
theorem ari{α:Type}(F:Fence)(n:Nat)(h7:F.fn 263)(hro:F.round=none)(l Bs Bn:Nat)(a:Option Addr)(cap:Nat)(sz:Nat)(J:List α→World→Prop)
  (W:World) (hBs:W.cell? ⟨Bs,0,none⟩=some (.slice a 0 cap)) (hBn:W.cell? ⟨Bn,0,none⟩=some (.int .i64 sz)) (h0:J [] W):
  CallsIn F n Tryz.prog 263 #[.func (.yield l) #[] #[],.pointer (some ⟨Bs,0,none⟩),.pointer (some ⟨Bn,0,none⟩)] W fun e W'=>(∃v,e= .returned v)∧J [] W':=by
 refine callsIn_of_wp Tryz.func263 rfl h7 ?_ hro;simp only[Tryz.ntmps263,ek,aZ,dz,Nat.reduceAdd,Nat.reduceSub,Array.replicate_succ,Array.replicate_zero,List.push_toArray,List.append_toArray,bE,eJ]
 gi_wp2
 gi_loopw [4] (fun i wr=>i= .int .i64 0∧J [] wr∧wr.cell? ⟨Bs,0,none⟩=some (.slice a 0 cap)) (fun _ _=>0)
 case atStart=>exact⟨rfl,h0,hBs⟩
 case round=>
  obtain⟨rfl,hJs,YZ⟩:=hrel
  gi_wp2
  go_end0
  exact⟨⟨_,rfl⟩,hJs⟩
theorem atd(sz:Nat)(h:1≤sz):pcs 0 sz=0:=Nat.div_eq_of_lt (by omega)
theorem XM{α:Type}(F:Fence)(n:Nat)(h7:F.fn 263)(hro:F.round=none)(hn:1≤n)(Bs Bn:Nat)(a:Option Addr)(len cap sz:Nat)(hlc:len≤cap)(hlen:len≤1000000000)(Ro:1≤sz)(ayJ:sz≤1000000000000)(enc:α→Value)(f:Nat→α)
  (hf:len=0∨∃b off,a=some ⟨b,off,none⟩∧∀j,j*sz<len→enc (f j)= .slice (some ⟨b,off+j*sz,none⟩) (min sz (len -j*sz)) (min sz (len -j*sz)))
  (w:World) (hBs:Bs<w.heap.size) (hBn:Bn<w.heap.size) (hcs:w.cell? ⟨Bs,0,none⟩=some (.slice a len cap)) (hcn:w.cell? ⟨Bn,0,none⟩=some (.int .i64 sz)):
  SeqStopsK F n Tryz.prog 263 #[.pointer (some ⟨Bs,0,none⟩),.pointer (some ⟨Bn,0,none⟩)] (fun x:α=> #[enc x]) (KpC Bs Bn) (fun ys=>ys=upto f (pcs len sz)) (fun _=>True) (pcs len sz) w:=fun l J Jx W hW hJ _ hY h0=>by
 have aA8:=(hW.cell (p:=⟨Bs,0,none⟩) hBs).trans hcs;have aA9:=(hW.cell (p:=⟨Bn,0,none⟩) hBn).trans hcn;rcases hf with rfl |⟨b,off,rfl,hf⟩
 ·refine(ari F n h7 hro l Bs Bn a cap sz J W aA8 aA9 h0).mono fun e W' ⟨he,hj⟩=>⟨he,.inl ⟨_,rfl,?_⟩⟩;rw[atd sz Ro];exact hj
 ·exact arh F n h7 hro hn l Bs Bn b off len cap sz hlc hlen Ro ayJ enc f hf J Jx _ hJ hY W aA8 aA9 h0
set_option maxRecDepth 100000 in
set_option maxHeartbeats 1000000 in
theorem al4(F:Fence)(n:Nat)(h5:F.fn 236)(hro:F.round=none)(a:Option Addr)(len cap sz:Nat)(Ro:1≤sz)(ayJ:sz≤1000000000000)(w:World):
  CallsIn F n Tryz.prog 236 #[.slice a len cap,.int .i64 sz] w fun e w'=>e= .returned (.func (.func 263) #[] #[.pointer (some ⟨w.heap.size,0,none⟩),.pointer (some ⟨w.heap.size+1,0,none⟩)])∧w'=(w.alloc (.cells #[.slice a len cap] 28)).alloc (.cells #[.int .i64 sz] 3):=by
 refine callsIn_of_wp Tryz.func236 rfl h5 ?_ hro;simp only[Tryz.ntmps236,ek,aZ,dz,Nat.reduceAdd,Nat.reduceSub,Array.replicate_succ,Array.replicate_zero,List.push_toArray,List.append_toArray,bE,eJ]
 gi_wp2
 go_ret
 exact⟨by simp,rfl⟩
end Tryz
end Go.Proofs
namespace Go.Proofs
open Go.RowKit Go.Shelf Go.Am
attribute [local go_sem] Oper.semAt_some
namespace Tryz
theorem aw7:(Tryz.prog.info? 2).map (fun i=>(i.zero,i.size,i.bytes))=some (some (.int .i64 0),1,8):=by kernel_rfl
theorem z7{W W':World}(h:W.Extends W'){B:Nat}{t:TypeId}{v:Value}(hb:Boxed W B t v):Boxed W' B t v:=(h.block B hb.lt).trans hb
theorem acT{w:World}{Z Zp:cD}{k:IntKind}{x:Int}{v:Value}(h:yv w Z Zp (.int k) x v):v= .int k x:=by
 have:PR w Z Zp (.int k) x [v]:=h;simp only[PR]at this;injection this
theorem Fe{R:Type}{c:Bool}{x y:Option R}{r:R}(h:av c x y=some r):(c=true∧x=some r)∨(c=false∧y=some r):=by
 cases c with
 |true=>exact .inl ⟨rfl,h⟩
 |false=>exact .inr ⟨rfl,h⟩
theorem ajp{Fm:List Int×Int→Option Int}{Fd:List Int×List Int→Option Int}{xs ys:List Int}{fN:Int}{r:List Int×Int}(h:PP Fm Fd (xs,fN,ys)=some r):
  ∃e0,Fm (xs,fN)=some e0∧((e0≠0∧r=([],e0))∨(e0=0∧((ys.length:Nat):Int)≠fN∧r=([],80))∨
   (e0=0∧((ys.length:Nat):Int)=fN∧1≤ys.length∧ys.length≤1000000000000∧xs.length≤1000000000∧∃out,vo (fun row=>Fd (row,ys)) (chunks ys.length xs)=some out∧r=(out,0))):=by
 unfold PP at h;obtain⟨e0,he0,h⟩:=Option.bind_eq_some_iff.1 h;refine⟨e0,he0,?_⟩;rcases Fe h with⟨h1,h⟩|⟨h1,h⟩
 ·cases h;exact .inl ⟨by simpa using h1,rfl⟩
 ·have h1:e0=0:=by simpa using h1
  rcases Fe h with⟨h2,h⟩|⟨h2,h⟩
  ·cases h;exact .inr (.inl ⟨h1,by simpa using h2,rfl⟩)
  ·have h2:((ys.length:Nat):Int)=fN:=by simpa using h2
   rcases Fe h with⟨h3,h⟩|⟨h3,h⟩
   ·simp only[aj,decide_eq_true_eq]at h3;obtain⟨out,ho,h⟩:=Option.bind_eq_some_iff.1 h
    cases h;subst h2;rw[ax]at ho;exact .inr (.inr ⟨h1,rfl,by omega,by omega,by omega,out,ho,rfl⟩)
   ·cases h
theorem XN{w0 w w':World}(he:w0.Extends w)(h1:w'.os=w.os)(h2:w'.tape=w.tape)(h3:w'.output=w.output)(h4:w.heap.size≤w'.heap.size)(hb:∀i:Nat,i<w0.heap.size→w'.heap[i]? =w.heap[i]?):w0.Extends w':=by
 have hb':∀i:Nat,i<w0.heap.size→w'.heap[i]? =w0.heap[i]? :=fun i hi=>(hb i hi).trans (he.block i hi)
 exact⟨h1.trans he.os,h2.trans he.tape,h3.trans he.output,eA he.size h4,fun a ha=>bW (hb' a.block ha),fun a ha=>World.frozen?_of_block (hb' a.block ha),hb'⟩
def GV(a:Option Addr)(n k j:Nat):Value:=
 match a with
 |some ⟨b,off,none⟩=> .slice (some ⟨b,off+j*k,none⟩) (min k (n -j*k)) (min k (n -j*k))
 |_=> .slice none 0 0
theorem ajq{w:World}{Z Zp:cD}:PR w Z Zp (.sl (.int .i64)) ([]:List Int) [.slice none 0 0]:=⟨none,0,[],rfl,aA _,rfl,fun h=>absurd rfl h⟩
theorem zd{w:World}{Z Zp:cD}{k:IntKind}:∀(l:List Int) (us:List Value),dY (PR w Z Zp (.int k)) l us↔us=l.map (bq k)
 |[],us=>Iff.rfl
 |x::l,us=>by
  simp only[dY,cj];constructor
  ·rintro⟨es,rest,rfl,h1,h2⟩;have h1:es=[.int k x]:=h1;rw[h1,(zd l rest).1 h2];rfl
  ·rintro rfl;exact⟨[.int k x],_,rfl,rfl,(zd l _).2 rfl⟩
theorem al5{w:World}{Z Zp:cD}{k:IntKind}{a0:Option Addr}{n0:Nat}{xs:List Int}(hn:n0=xs.length){us:List Value}(hus:dY (PR w Z Zp (.int k)) xs us)(hat:At w Z a0 us)(sz j:Nat):
  PR w Z Zp (.sl (.int k)) ((xs.drop (j*sz)).take sz) [GV a0 n0 sz j]:=by
 have hu:=(zd xs us).1 hus;subst hu
 cases xs with
 |nil=>
  subst hn;have:∀a0,∃base,GV a0 (ae ([]:List Int)) sz j= .slice base 0 0:=by
   intro a0;unfold GV
   split
   ·exact⟨some ⟨_,_,none⟩,by simp;exact⟨rfl,rfl⟩⟩
   ·exact⟨_,rfl⟩
  obtain⟨base,this⟩:=this a0;rw[this];have hx:(([]:List Int).drop (j*sz)).take sz=[]:=by simp
  refine cast (congrArg (fun l:List Int=>PR w Z Zp (.sl (.int k)) l [.slice base 0 0]) hx.symm) ?_;exact⟨base,0,[],rfl,aA _,rfl,fun h=>absurd rfl h⟩
 |cons y l=>
  obtain⟨b,off,rfl,hc⟩:=hat (by simp);subst hn;have hl:ae (((y::l).drop (j*sz)).take sz)=min sz ((y::l).length -j*sz):=by simp
  refine⟨some ⟨b,off+j*sz,none⟩,min sz ((y::l).length -j*sz),((((y::l).drop (j*sz)).take sz).map (bq k)),?_,?_,(zd _ _).2 rfl,fun _=>⟨b,off+j*sz,rfl,fun i u hi=> ?_⟩⟩
  ·show _=[Value.slice _ (ae (((y::l).drop (j*sz)).take sz)) _];rw[hl];rfl
  ·exact Nat.le_of_eq hl
  ·rw[List.getElem?_map]at hi;have h1:(((y::l).drop (j*sz)).take sz)[i]? =if i<sz then(y::l)[j*sz+i]? else none:=by
    rw[dh]
    split
    ·rw[List.getElem?_drop]
    ·rfl
   rw[h1]at hi
   split at hi
   ·rename_i hlt;have:=hc (j*sz+i) u (by rw[List.getElem?_map];exact hi);rw[fu];exact this
   ·cases hi
theorem ate{W W':World}(h:W.Extends W'){base e size:Nat}{v:Value}{n:Nat}{xs:List Value}(ho:W.ownsRow base e size v n xs):W'.ownsRow base e size v n xs:=by
 refine⟨ho.1,?_⟩;rcases ho.2 with h1 |⟨g,cap,cur,h1,h2,h3,h4⟩
 ·exact .inl h1
 ·exact .inr ⟨g,cap,cur,h1,h2,(h.block g (Array.getElem?_eq_some_iff.1 h3).1).trans h3,h4⟩
theorem aqd{w w':World}{Z:cD}{base e:Nat}{v:Value}{l:List Int}(hb:w.heap.size≤base)(ho:w'.ownsRow base e 1 v l.length (l.map (bq .i64))):PR w' (Zc Z w w') jT (.sl (.int .i64)) l [v]:=by
 rcases ho.2 with⟨h1,h2⟩|⟨g,cap,cur,h1,h2,h3,h4,h5,h6,h7⟩
 ·rw[h1];have:l=[]:=List.length_eq_zero_iff.1 h2;subst this;exact ajq
 ·rw[h1];have hg:=(Array.getElem?_eq_some_iff.1 h3).1;refine⟨_,cap,l.map (bq .i64),rfl,h4,(zd _ _).2 rfl,fun _=>⟨g,0,rfl,fun j u hj=>⟨?_,.inr ⟨by omega,hg⟩⟩⟩⟩;rw[←h7,dh]at hj
  split at hj
  ·have:cur[j]? =some u:=by rw[←cG];exact hj
   simp[World.cell?,h3,this]
  ·cases hj
theorem atf{w w':World}{Z:cD}{l:List Int}{n:Int}{sv:Value}(h:w.Extends w')(k:PR w' (Zc Z w w') jT (.sl (.int .i64)) l [sv]){e:Ending}(he:e= .returned (.tuple #[sv,.int .i64 n])):
 ∃v,e= .returned v∧w.Extends w'∧PK w' (Zc Z w w') jT [.sl (.int .i64),.int .i64] (l,n) v:=⟨_,he,h,_,rfl,_,_,rfl,k,_,rfl,rfl⟩
set_option maxRecDepth 100000 in
set_option maxHeartbeats 2000000 in
theorem al6{Fm:List Int×Int→Option Int}{Fd:List Int×List Int→Option Int}(hm:aq Tryz.prog 235 ⟨[.sl (.int .i8),.int .i64],[.int .i64],Fm⟩)(hd:aq Tryz.prog 237 ⟨[.sl (.int .i8),.sl (.int .i8)],[.int .i64],Fd⟩)
  (w:World) (Z Zp:cD) (xs:List Int) (fN:Int) (ys:List Int) (r:List Int×Int) (v0 v2:Value) (hz:∀b i,Z b i→b<w.heap.size) (hzp:∀b i,Zp b i→b<w.heap.size)
  (h0:PR w Z Zp (.sl (.int .i8)) xs [v0]) (h2:PR w Z Zp (.sl (.int .i8)) ys [v2]) (e:PP Fm Fd (xs,fN,ys)=some r):
  Calls Tryz.prog 201 #[v0,.int .i64 fN,v2] w fun e w'=>∃v,e= .returned v∧w.Extends w'∧PK w' (Zc Z w w') jT [.sl (.int .i64),.int .i64] r v:=by
 obtain⟨e0,he0,e⟩:=ajp e;have ah0:w.Extends (w.alloc (.cells #[v2] 28)):=(World.Extends.refl w).alloc _;have kz:dK w (w.alloc (.cells #[v2] 28)) Z Z:=fun b i hb=>⟨hb,ah0.cell _ (hz b i hb)⟩;have kzp:dK w (w.alloc (.cells #[v2] 28)) Zp Zp:=fun b i hb=>⟨hb,ah0.cell _ (hzp b i hb)⟩;have hcm:=hm.calls (w.alloc (.cells #[v2] 28)) Z Zp (xs,fN) e0 [v0,.int .i64 fN] (fun b i hb=>by have:=hz b i hb;simp;omega) (fun b i hb=>by have:=hzp b i hb;simp;omega) ⟨v0,_,rfl,PR.mono kz kzp _ _ _ h0,_,rfl,rfl⟩ he0;replace hcm:Calls Tryz.prog 235 #[v0,.int .i64 fN] (w.alloc (.cells #[v2] 28)) fun e w'=>e= .returned (.int .i64 e0)∧(w.alloc (.cells #[v2] 28)).Extends w':=
  hcm.mono fun e w' ⟨v,he,r9,hres⟩=>⟨by rw[he,acT (show yv w' (Zc Z (w.alloc (.cells #[v2] 28)) w') jT (.int .i64) e0 v from hres)],r9⟩
 have h0':=h0;have h2':=h2;obtain⟨a0,Ea,us0,q1,hlc,hus,hat⟩:=h0';obtain⟨a2,Za,us2,q2,_,_,_⟩:=h2';obtain⟨n0,hn0⟩:∃n,Hid (n=ae xs):=⟨_,rfl⟩;obtain⟨n2,hn2⟩:∃n,Hid (n=ae ys):=⟨_,rfl⟩;have e1:v0= .slice a0 n0 Ea:=by rw[hn0.out];injection q1
 have e2:v2= .slice a2 n2 Za:=by rw[hn2.out];injection q2
 clear q1 q2;subst e1;subst e2;refine(callsIn_wide (n:=5)).1 ?_;refine callsIn_of_wp_marks Tryz.func201 rfl trivial ?_ rfl;simp only[Tryz.ntmps201,ek,aZ,dz,Nat.reduceAdd,Nat.reduceSub,Array.replicate_succ,Array.replicate_zero,List.push_toArray,List.append_toArray,bE,eJ];rcases e with⟨h00,rfl⟩|⟨rfl,hlen,rfl⟩|⟨rfl,hlen,u5,Ng,hg3,px,aw8,rfl⟩
 ·gi_wp2_with (refine⟨trivial,?_⟩;gi_at_call 235;refine(callsIn_wide.2 hcm).mono ?_;rintro e w2 ⟨rfl,r9⟩;have hbX:=z7 r9 (Boxed.new w 28 (.slice a2 n2 Za));have hcX:=hbX.cell)
  exact⟨_,results_tmp2 rfl _ _ _,atf (ah0.trans r9) ajq rfl⟩
 ·rw[←hn2.out]at hlen
  gi_wp2_with (refine⟨trivial,?_⟩;gi_at_call 235;refine(callsIn_wide.2 hcm).mono ?_;rintro e w2 ⟨rfl,r9⟩;have hbX:=z7 r9 (Boxed.new w 28 (.slice a2 n2 Za));have hcX:=hbX.cell)
  exact⟨_,results_tmp2 rfl _ _ _,atf (ah0.trans r9) ajq rfl⟩
 ·rw[←hn2.out]at hlen u5 Ng;rw[←hn0.out]at hg3;subst hlen
  gi_wp2_with (first
     |(refine⟨trivial,?_⟩;gi_at_call 235;refine(callsIn_wide.2 hcm).mono ?_;rintro e w2 ⟨rfl,r9⟩;have hbX:=z7 r9 (Boxed.new w 28 (.slice a2 n2 Za));have hcX:=hbX.cell)
     |(refine⟨trivial,?_⟩;gi_at_call 236;refine(Tryz.al4 _ _ trivial rfl _ _ _ _ (by omega) (by omega) _).mono ?_;rintro e w' ⟨rfl,rfl⟩))
  have hK0:∀j,PR w Z Zp (.sl (.int .i8)) ((xs.drop (j*n2)).take n2) [GV a0 n0 n2 j]:=fun j=>al5 hn0.out hus hat n2 j;have hpos:0<n0→∀j,j<pcs n0 n2→∃y,Fd ((xs.drop (j*n2)).take n2,ys)=some y:=fun _ j hj=>by
   refine al0 _ _ _ aw8 _ ?_;rw[←hn2.out];simp only[chunks,upto,List.mem_map,List.mem_range];exact⟨j,by rw[←hn0.out];exact hj,rfl⟩
  let α:={ p:Value×List Int // PR w Z Zp (.sl (.int .i8)) p.2 [p.1]∧(0<n0→∃y,Fd (p.2,ys)=some y) }
  have hz0:∀j,j<pcs n0 n2∨j=0→PR w Z Zp (.sl (.int .i8)) ((xs.drop (j*n2)).take n2) [GV a0 n0 n2 j]∧(0<n0→∃y,Fd ((xs.drop (j*n2)).take n2,ys)=some y):=fun j hj=>⟨hK0 j,fun h=>hpos h j (by
   rcases hj with hj |hj
   ·exact hj
   ·rw[hj];exact(PS u5).2 (by omega))⟩
  let fj:Nat→α:=fun j=>if h:j<pcs n0 n2 then⟨(GV a0 n0 n2 j,(xs.drop (j*n2)).take n2),hz0 j (.inl h)⟩else⟨(GV a0 n0 n2 0,(xs.drop (0*n2)).take n2),hz0 0 (.inr rfl)⟩
  let outs:List α→List Int:=fun pre=>(vo (fun row=>Fd (row,ys)) (pre.map fun x=>x.1.2)).getD []
  obtain⟨w4,hw4⟩:∃w4,((w2.alloc (.cells #[.slice none 0 0] 126)).alloc (.cells #[.slice a0 n0 Ea] 28)).alloc (.cells #[.int .i64 (n2:Int)] 3)=w4:=⟨_,rfl⟩;have bO:Boxed w4 w2.heap.size 126 (.slice none 0 0):=by rw[←hw4];exact((Boxed.new w2 _ _).alloc _).alloc _
  have bS:Boxed w4 (w2.heap.size+1) 28 (.slice a0 n0 Ea):=by rw[←hw4];have:=(Boxed.new (w2.alloc (.cells #[.slice none 0 0] 126)) 28 (.slice a0 n0 Ea)).alloc (.cells #[.int .i64 (n2:Int)] 3);rwa[World.size_alloc]at this
  have bN:Boxed w4 (w2.heap.size+1+1) 3 (.int .i64 (n2:Int)):=by rw[←hw4];have:=Boxed.new ((w2.alloc (.cells #[.slice none 0 0] 126)).alloc (.cells #[.slice a0 n0 Ea] 28)) 3 (.int .i64 (n2:Int));rwa[World.size_alloc,World.size_alloc]at this
  have bX:Boxed w4 w.heap.size 28 (.slice a2 n2 Za):=by rw[←hw4];exact((hbX.alloc _).alloc _).alloc _
  have hsz:w4.heap.size=w2.heap.size+3:=by rw[←hw4];simp
  have hB4:Below w2.heap.size w2 w4:=by rw[←hw4];exact(((Below.refl _ w2).alloc (aA _) _).alloc (by simp) _).alloc (by simp;omega) _
  have aBa:w.heap.size<w2.heap.size:=by have:=r9.size;simp at this;omega
  rw[hw4];have hstops:=Tryz.XM (α:=α) Fence.wide 4 trivial rfl (by omega) (w2.heap.size+1) (w2.heap.size+1+1) a0 n0 Ea n2 (by rw[hn0.out];exact hlc) hg3 u5 Ng (fun x=>x.1.1) fj (by
   by_cases hn:n0=0
   ·exact .inl hn
   ·right;have hne:us0≠[]:=by
     intro h;rw[h]at hus;have:=(zd xs []).1 hus;have hx:xs=[]:=by simpa using this.symm
     have:=hn0.out;rw[hx]at this;exact hn this
    obtain⟨b,off,rfl,_⟩:=hat hne;refine⟨b,off,rfl,fun j hj=> ?_⟩;have hj':j<pcs n0 n2:=(PS u5).2 hj;simp only[fj];rw[dif_pos hj'];rfl) w4 (by omega) (by omega) bS.cell bN.cell
  refine wpIn_rangeFunc_ownG (F:=Fence.wide) rfl (by omega) (gf:=263) (lb:= #[.pointer (some ⟨w2.heap.size+1,0,none⟩),.pointer (some ⟨w2.heap.size+1+1,0,none⟩)]) rfl trivial (enters_of Tryz.func263 (by kernel_rfl) rfl)
   hstops KpC.trans (fun W l o o' hl hlo hoc _=>⟨World.putObj_heap_other (by omega),World.putObj_heap_other (by omega)⟩) (Below.refl _ _) (fun _=>rfl)
   (fun pre W=>(∃v,Boxed W w2.heap.size 126 v∧W.ownsRow w2.heap.size 2 1 v (outs pre).length ((outs pre).map (bq .i64))∧∃o,vo (fun row=>Fd (row,ys)) (pre.map fun x=>x.1.2)=some o)∧Below w2.heap.size w2 W∧Boxed W (w2.heap.size+1) 28 (.slice a0 n0 Ea)∧Boxed W (w2.heap.size+1+1) 3 (.int .i64 (n2:Int)))
   (fun _ _ _=>False)
   (OwnFrom.and (Own.from (holdsRow_own w2.heap.size w2.heap.size 126 2 1 (fun pre=>(outs pre).length) (fun pre=>(outs pre).map (bq .i64)) (fun pre v=>∃o,vo (fun row=>Fd (row,ys)) (pre.map fun x=>x.1.2)=some o)) _) (OwnFrom.and (ownFrom_below (aA _) (by omega)) (OwnFrom.and (Own.from (boxed_own (β:=List α) _ _ (fun _=>_)) _) (Own.from (boxed_own (β:=List α) _ _ (fun _=>_)) _))))
   (fun _ _ _ _ _ hs _ _=>hs)
   ⟨⟨_,bO,World.ownsRow_nil _ _ _ _,[],rfl⟩,hB4,bS,bN⟩
   (fun x=>{ tmps:= #[Value.slice a0 n0 Ea,bq bw n2,Value.slice a2 n2 Za,undef,undef,
     Value.pointer (some { block:=w.heap.size,off:=0 }),Value.slice none 0 0,bq bw 0,
     bq bw 0,Value.pointer (some { block:=w2.heap.size,off:=0 }),x.1.1,
     Value.slice a0 n0 Ea,bq bw n2,bq bw 0,bq bw 0,
     Value.bool false,undef,Value.slice a2 n2 Za,bq bw n2,bq bw n2,
     Value.bool false,Value.slice a0 n0 Ea,bq bw n2,
     Value.func (Fn.func 263) #[]
      #[Value.pointer (some { block:=w2.heap.size+1,off:=0 }),
       Value.pointer (some { block:=w2.heap.size+1+1,off:=0 })],
     x.1.1,undef,undef,undef,undef,undef,undef,undef],defers:=[] }) ?assign ?body ?done ?stop
  case assign=>
   intro l x W K hK
   gi_wp2
   exact hK
  case stop=>
   rintro D c pre W _ _ h _;exact h.elim
  case body=>
   rintro l pre x W ⟨⟨v,hv,hrow,o,ho⟩,hB,bS',bN'⟩ hlt;have hpre:pre.length<1000000000:=by
    have h1:=(PS u5).1 hlt;have h2:pre.length≤pre.length*n2:=cB _ u5;omega
   have J5:(outs pre).length=pre.length:=by
    simp only[outs];rw[ho,Option.getD_some,al1 _ _ _ ho,di]
   have axV:0<n0:=by have:=(PS u5).1 hlt;omega
   obtain⟨y,hy⟩:=x.2.2 axV;have aDq:Boxed W w.heap.size 28 (.slice a2 n2 Za):=(hB.block _ aBa).trans hbX;have aIa:=aDq.cell;have hcO:=hv.cell;have aBb:(w.alloc (.cells #[.slice a2 n2 Za] 28)).Extends w2:=r9;have hcell:∀b i,b<w.heap.size→W.cell? ⟨b,i,none⟩=w.cell? ⟨b,i,none⟩:=fun b i hb=>(bW (hB.block b (by omega))).trans ((aBb.cell _ (by simp;omega)).trans (ah0.cell _ hb));have aBc:w.heap.size≤W.heap.size:=by have:=hB.size;omega
   have hdc:=hd.calls W.drew Z Zp (x.1.2,ys) y [x.1.1,.slice a2 n2 Za] (fun b i hb=>ca (hz b i hb) aBc) (fun b i hb=>ca (hzp b i hb) aBc)
    ⟨_,_,rfl,PR.mono (fun b i hb=>⟨hb,hcell b i (hz b i hb)⟩) (fun b i hb=>⟨hb,hcell b i (hzp b i hb)⟩) _ _ _ x.2.1,_,rfl,PR.mono (fun b i hb=>⟨hb,hcell b i (hz b i hb)⟩) (fun b i hb=>⟨hb,hcell b i (hzp b i hb)⟩) _ _ _ h2⟩ hy
   replace hdc:Calls Tryz.prog 237 #[x.1.1,.slice a2 n2 Za] W.drew fun e w'=>e= .returned (.int .i64 y)∧W.drew.Extends w':=
    hdc.mono fun e w' ⟨v,he,r9,hres⟩=>⟨by rw[he,acT (show yv w' (Zc Z W.drew w') jT (.int .i64) y v from hres)],r9⟩
   have ho2:vo (fun row=>Fd (row,ys)) ((pre++[x]).map fun x=>x.1.2)=some (o++[y]):=by
    rw[eI];exact Vl _ _ _ _ _ ho hy
   have hou:outs (pre++[x])=outs pre++[y]:=by
    simp only[outs];rw[ho2,ho];rfl
   have Va:Tryz.prog.follows .mixedOrders=true:=by kernel_rfl
   obtain⟨i0,hi,hz0,hz1,hz2⟩:=info_parts aw7
   gi_wp2
   gi_region_with_o (refine⟨trivial,?_⟩;gi_at_call 237;refine(CallsIn.inRound l (callsIn_wide.2 hdc)).mono ?_;rintro e W5 ⟨rfl,NK⟩;have hv5:=z7 (W:=W.drew) NK hv;have aqf:=ate (W:=W.drew) NK hrow;have aIc:=hv5.cell;have aId:=(hv5.alloc (.cells #[.int .i64 y] 2)).cell;have aBd:W.heap.size≤W5.heap.size:=NK.size;obtain⟨v',w1,hrun,hown',hgrow,_⟩:=run_append_own (P:=Tryz.prog) (w:=W5.alloc (.cells #[.int .i64 y] 2)) w2.heap.size 126 126 2 i0 (.int .i64 0) 1 8 Tryz.underlying126 hi hz0 hz1 hz2 rfl (by decide) v _ _ (aqf.alloc _) ⟨W5.heap.size,0,none⟩ 1 1 [.int .i64 y] rfl (cell_one_new _ _ _) (by simp[Value.oneCell']) (by rw[J5];unfold maxLen;omega) (by omega) (by have:=hB.size;simp;omega);obtain⟨g',cap',rfl⟩:=ownsRow_succ hown';obtain⟨hv1,hv2,hr2,hk2,J0⟩:=hv5.appended (by decide) aqf (by have:=hB.size;omega) (aA _) hown' hgrow;have YZ:=hv1.cell;have hf1:=hv1.frozen;simp[go_sem]at hrun)
   all_goals clear hrun
   all_goals rw[←J5]
   all_goals have hk5:KeepsOthers W W5:=⟨aBd,fun k o hk _=>(NK.block k (Array.getElem?_eq_some_iff.1 hk).1).trans hk⟩
   all_goals have hb5:Below w2.heap.size W W5:=⟨NK.os,NK.tape,NK.output,aBd,fun k hk=>NK.block k (by have:=hB.size;show k<W.heap.size;omega)⟩
   all_goals have bS5:=z7 (W:=W.drew) NK bS'
   all_goals have bN5:=z7 (W:=W.drew) NK bN'
   all_goals have bS6:=((bS5.alloc _).kept hgrow (bS5.not_row (by decide) aqf)).other (B':=w2.heap.size) (by omega) (.slice (some ⟨g',0,none⟩) ((outs pre).length+1) cap')
   all_goals have bN6:=((bN5.alloc _).kept hgrow (bN5.not_row (by decide) aqf)).other (B':=w2.heap.size) (by omega) (.slice (some ⟨g',0,none⟩) ((outs pre).length+1) cap')
   all_goals exact⟨(hk5.trans hk2).from _,⟨bS6.trans bS'.symm,bN6.trans bN'.symm⟩,⟨_,hv2,by rw[hou];simpa using hr2,_,ho2⟩,hB.trans (hb5.trans J0),bS6,bN6⟩
  case done=>
   rintro D pre W hD rfl ⟨⟨v,hv,hrow,o,ho⟩,hB,bS',bN'⟩ hK;have hc:=hv.cell
   gi_wp2
   refine⟨by simp,.inl ⟨_,_,rfl,run_takeDeferred hK,?_⟩⟩;refine⟨_,results_tmp2 rfl _ _ _,?_⟩;have hD0:w2.heap.size≤D:=by omega
   have Q3:w.Extends (W.putObj D (.deferred none)):=by
    refine XN (ah0.trans r9) (hB.os) (hB.tape) (hB.output) (by have:=hB.size;simp;omega) fun i hi=> ?_;rw[World.putObj_heap_other (by omega)];exact hB.block i (by omega)
   have hch:((upto fj (pcs n0 n2)).map fun x=>x.1.2)=chunks ys.length xs:=by
    simp only[chunks,upto,List.map_map];rw[←hn2.out,←hn0.out];refine List.map_congr_left fun j hj=> ?_;have hj:=List.mem_range.1 hj;simp only[Function.comp,fj];rw[dif_pos hj]
   have hout:outs (upto fj (pcs n0 n2))=px:=by
    simp only[outs];rw[hch,aw8];rfl
   rw[hout]at hrow;exact atf Q3 (aqd (by omega) (ownsRow_putObj hrow _ hK rfl)) rfl
theorem ajr{Fm:List Int×Int→Option Int}{Fd:List Int×List Int→Option Int}(hm:aq Tryz.prog 235 ⟨[.sl (.int .i8),.int .i64],[.int .i64],Fm⟩)(hd:aq Tryz.prog 237 ⟨[.sl (.int .i8),.sl (.int .i8)],[.int .i64],Fd⟩):
  aq Tryz.prog 201 ⟨[.sl (.int .i8),.int .i64,.sl (.int .i8)],[.sl (.int .i64),.int .i64],PP Fm Fd⟩:=by
 refine⟨⟨f201,func201,by kernel_rfl,by kernel_rfl⟩,rfl,fun w Z Zp x r args hz hzp ha e=> ?_⟩;obtain⟨v0,_,rfl,h0,v1,_,rfl,h1,v2,rfl,h2⟩:=ha;have h1:v1= .int .i64 x.2.1:=acT h1;subst h1;exact al6 hm hd w Z Zp x.1 x.2.1 x.2.2 r v0 v2 hz hzp h0 h2 e
end Tryz
end Go.Proofs
