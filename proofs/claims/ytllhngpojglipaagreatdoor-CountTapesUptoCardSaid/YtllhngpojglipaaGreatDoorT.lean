import Derived.RangeFuncBox
import Derived.RangeFuncLeaves
import Derived.RangeFuncCalls
import Derived.Shelf.Abstract
import Derived.Shelf.RegionOpen
import Derived.WalkKit
import Derived.OwnWalkIn
import Derived.TacticsInMore
import Derived.LoopNIn
import Derived.LoopIn
import Derived.Maps.AppendAt
import Derived.Test.YtllhngpojglipaaGreatDoorProg
import Derived.Test.YtllhngpojglipaaGreatDoorGT
import Derived.RangeFuncNested
import Derived.Test.YtllhngpojglipaaGreatDoorA4
set_option linter.unusedVariables false
set_option linter.unusedSimpArgs false
open Array renaming getElem?_toList→cC
open Bool renaming and_eq_true→ak
open Int renaming toNat_natCast→ax
open Go.IntKind renaming i64→bz
open List renaming cons_append→ev,getElem?_eq_getElem→ai,getElem?_take→db,length_cons→bg,length_drop→dE,length_map→dc,length_nil→dr,length_take→aC,length→af,map_append→eu,map_congr_left→ft,map_cons→cb,nil_append→bC,size_toArray→dZ,take_add_one→dK,take_of_length_le→aR
open Nat renaming add_assoc→eZ,le_mul_of_pos_right→cy,le_refl→az,le_trans→ei,lt_of_lt_of_le→ca
open Go.Value renaming int→bu
open Go.World renaming cell?_of_block→bW
set_option linter.unusedVariables false
namespace Go.Proofs
open Go.RowKit Go.Shelf Go.Am
attribute [local go_sem] Oper.semAt_some
namespace Tryz
theorem apn{α:Type}(f:Nat→α)(k:Nat):upto f (k+1)=upto f k++[f k]:=by simp[upto,List.range_succ]
theorem akB{α:Type}(f:Nat→α)(k:Nat):(upto f k).length=k:=by simp[upto]
def KpC(b a:Nat)(W c:World):Prop:=c.heap[b]? =W.heap[b]? ∧c.heap[a]? =W.heap[a]?
theorem KpC.refl(j i:Nat)(W:World):KpC j i W W:=⟨rfl,rfl⟩
theorem KpC.trans{j i:Nat}{A B C:World}(h:KpC j i A B)(k:KpC j i B C):KpC j i A C:=⟨k.1.trans h.1,k.2.trans h.2⟩
theorem amX(w:World):w.grownBy w.drew none:=⟨rfl,rfl,rfl,az _,fun _ _ _=>rfl⟩
theorem O1{len sz k:Nat}(h:1≤sz):k<pcs len sz↔k*sz<len:=by
 unfold pcs;rw[Nat.lt_div_iff_mul_lt (by omega)];omega
set_option maxRecDepth 100000 in
set_option maxHeartbeats 2000000 in
theorem apo {α : Type} (F : Fence) (n : Nat) (h7 : F.fn 263) (U : F.round = none) (hn : 1 ≤ n) (l q g b off len cap sz : Nat) (hlc : len ≤ cap) (Z : len ≤ 1000000000) (t : 1 ≤ sz) (aDC : sz ≤ 1000000000000) (enc : α → Value) (f : Nat → α)
    (hf : ∀ j, j * sz < len → enc (f j) = .slice (some ⟨b, off + j * sz, none⟩) (min sz (len - j * sz)) (min sz (len - j * sz))) (J M : List α → World → Prop) (B : Nat) (hJ : AbidesFrom B J)
    (hY : ∀ a x W, J a W → a.length < pcs len sz → YieldAt F (n - 1) Tryz.prog l #[enc x] W fun e D =>
      (e = .returned (.bool true) ∧ J (a ++ [x]) D ∧ KpC q g W D) ∨ (e = .returned (.bool false) ∧ M (a ++ [x]) D))
    (W : World) (Q : W.cell? ⟨q, 0, none⟩ = some (.slice (some ⟨b, off, none⟩) len cap)) (E : W.cell? ⟨g, 0, none⟩ = some (.int .i64 sz)) (h0 : J [] W) :
    CallsIn F n Tryz.prog 263 #[.func (.yield l) #[] #[], .pointer (some ⟨q, 0, none⟩), .pointer (some ⟨g, 0, none⟩)] W fun e D => (∃ v, e = .returned v) ∧
      ((∃ ys, ys = upto f (pcs len sz) ∧ J ys D) ∨ (∃ a, True ∧ M a D)) := by
  refine callsIn_of_wp Tryz.func263 rfl h7 ?_ U
  simp only [Tryz.ntmps263, dZ, bg, dr, Nat.reduceAdd, Nat.reduceSub, Array.replicate_succ, Array.replicate_zero, List.push_toArray, List.append_toArray, bC, ev]
  gi_wp2
  gi_loopw [4] (fun i wr => ∃ k p : Nat, Hid (p = k * sz) ∧ k ≤ pcs len sz ∧ i = .int .i64 (p : Int) ∧ J (upto f k) wr ∧ KpC q g W wr)
    (fun i _ => len + 1000000000000 - (intOf i).toNat)
  case atStart => exact ⟨0, 0, by simp [Hid], Nat.zero_le _, rfl, h0, KpC.refl _ _ _⟩
  case round =>
    obtain ⟨k, p, K, hk, rfl, H, z⟩ := hrel
    have hc1 : wr.cell? ⟨q, 0, none⟩ = some (.slice (some ⟨b, off, none⟩) len cap) := (bW z.1).trans Q
    have hc2 : wr.cell? ⟨g, 0, none⟩ = some (.int .i64 sz) := (bW z.2).trans E
    have hmx : Tryz.prog.follows .mixedOrders = true := by kernel_rfl
    by_cases y : p < len
    · have o : k < pcs len sz := (O1 t).2 (K.out ▸ y)
      have R : J (upto f k) wr.drew := hJ _ _ _ none H (amX wr) (fun r h => by cases h)
      have I : KpC q g W wr.drew := z.trans ⟨rfl, rfl⟩
      obtain ⟨fn, tmps, N, X, V, O⟩ := hY _ (f k) wr.drew R (by rw [akB]; exact o)
      rw [hf k (K.out ▸ y), ← K.out] at V
      have go : ∀ e d, (e = Ending.returned (.bool true) ∧ J (upto f k ++ [f k]) d ∧ KpC q g wr.drew d ∨ e = .returned (.bool false) ∧ M (upto f k ++ [f k]) d) →
          (e = .returned (.bool true) ∧ J (upto f (k + 1)) d ∧ KpC q g W d ∧ d.cell? ⟨g, 0, none⟩ = some (.int .i64 sz)) ∨ (e = .returned (.bool false) ∧ ∃ a, M a d) := by
        rintro e d (⟨rfl, P, Y⟩ | ⟨rfl, P⟩)
        · exact .inl ⟨rfl, by rw [apn]; exact P, I.trans Y, (bW (I.trans Y).2).trans E⟩
        · exact .inr ⟨rfl, _, P⟩
      replace O := O.mono go
      clear go
      have L : Hid (p + sz = (k + 1) * sz) := by
        show p + sz = (k + 1) * sz
        rw [K.out, Nat.succ_mul]
      by_cases T : sz ≤ len - p
      · rw [Nat.min_eq_left T] at V
        gi_wp2
        gi_region_o
        all_goals gi_wp2
        all_goals (try go_bits)
        all_goals refine O.mono ?_
        all_goals rintro e d (⟨rfl, u, w, S⟩ | ⟨rfl, a, c⟩)
        all_goals gi_wp2
        all_goals first
          | (go_roundw
             case rel => exact ⟨k + 1, p + sz, L, o, by simp, u, w⟩
             case measure => simp [intOf]; omega)
          | (refine bodyPost_ret (results_none rfl _ _ _) rfl ?_
             exact ⟨⟨_, rfl⟩, .inr ⟨_, trivial, c⟩⟩)
      · have aDD : len - p < sz := by omega
        rw [Nat.min_eq_right (by omega)] at V
        gi_wp2
        gi_region_o
        all_goals gi_wp2
        all_goals (try go_bits)
        all_goals refine O.mono ?_
        all_goals rintro e d (⟨rfl, u, w, S⟩ | ⟨rfl, a, c⟩)
        all_goals gi_wp2
        all_goals first
          | (go_roundw
             case rel => exact ⟨k + 1, p + sz, L, o, by simp, u, w⟩
             case measure => simp [intOf]; omega)
          | (refine bodyPost_ret (results_none rfl _ _ _) rfl ?_
             exact ⟨⟨_, rfl⟩, .inr ⟨_, trivial, c⟩⟩)
    · have o : ¬ k < pcs len sz := fun h => y (K.out ▸ (O1 t).1 h)
      obtain rfl : k = pcs len sz := by omega
      gi_wp2
      go_end0
      exact ⟨⟨_, rfl⟩, .inl ⟨_, rfl, H⟩⟩
set_option maxRecDepth 100000 in
set_option maxHeartbeats 2000000 in
theorem apq{α:Type}(F:Fence)(n:Nat)(o:F.fn 263)(g:F.round=none)(l b h:Nat)(a:Option Addr)(cap:Nat)(sz:Nat)(J:List α→World→Prop)
  (W:World) (c:W.cell? ⟨b,0,none⟩=some (.slice a 0 cap)) (p:W.cell? ⟨h,0,none⟩=some (.int .i64 sz)) (k:J [] W):
  CallsIn F n Tryz.prog 263 #[.func (.yield l) #[] #[],.pointer (some ⟨b,0,none⟩),.pointer (some ⟨h,0,none⟩)] W fun e j=>(∃v,e= .returned v)∧J [] j:=by
 refine callsIn_of_wp Tryz.func263 rfl o ?_ g;simp only[Tryz.ntmps263,dZ,bg,dr,Nat.reduceAdd,Nat.reduceSub,Array.replicate_succ,Array.replicate_zero,List.push_toArray,List.append_toArray,bC,ev]
 gi_wp2
 gi_loopw [4] (fun i wr=>i= .int .i64 0∧J [] wr∧wr.cell? ⟨b,0,none⟩=some (.slice a 0 cap)) (fun _ _=>0)
 case atStart=>exact⟨rfl,k,c⟩
 case round=>
  obtain⟨rfl,d,q⟩:=hrel
  gi_wp2
  go_end0
  exact⟨⟨_,rfl⟩,d⟩
theorem aq9(sz:Nat)(h:1≤sz):pcs 0 sz=0:=Nat.div_eq_of_lt (by omega)
theorem W8{α:Type}(F:Fence)(n:Nat)(E:F.fn 263)(o:F.round=none)(O:1≤n)(i h:Nat)(a:Option Addr)(len cap sz:Nat)(B:len≤cap)(k:len≤1000000000)(g:1≤sz)(q:sz≤1000000000000)(enc:α→Value)(f:Nat→α)
  (z:len=0∨∃b off,a=some ⟨b,off,none⟩∧∀j,j*sz<len→enc (f j)= .slice (some ⟨b,off+j*sz,none⟩) (min sz (len -j*sz)) (min sz (len -j*sz)))
  (w:World) (t:i<w.heap.size) (r:h<w.heap.size) (y:w.cell? ⟨i,0,none⟩=some (.slice a len cap)) (u:w.cell? ⟨h,0,none⟩=some (.int .i64 sz)):
  SeqStopsK F n Tryz.prog 263 #[.pointer (some ⟨i,0,none⟩),.pointer (some ⟨h,0,none⟩)] (fun x:α=> #[enc x]) (KpC i h) (fun P=>P=upto f (pcs len sz)) (fun _=>True) (pcs len sz) w:=fun l J I W H K _ L D=>by
 have d:=(H.cell (p:=⟨i,0,none⟩) t).trans y;have c:=(H.cell (p:=⟨h,0,none⟩) r).trans u;rcases z with rfl |⟨b,off,rfl,z⟩
 ·refine(apq F n E o l i h a cap sz J W d c D).mono fun e Q ⟨M,N⟩=>⟨M,.inl ⟨_,rfl,?_⟩⟩;rw[aq9 sz g];exact N
 ·exact apo F n E o O l i h b off len cap sz B k g q enc f z J I _ K L W d c D
set_option maxRecDepth 100000 in
set_option maxHeartbeats 1000000 in
theorem akC(F:Fence)(n:Nat)(g:F.fn 236)(b:F.round=none)(a:Option Addr)(len cap sz:Nat)(c:1≤sz)(d:sz≤1000000000000)(w:World):
  CallsIn F n Tryz.prog 236 #[.slice a len cap,.int .i64 sz] w fun e w'=>e= .returned (.func (.func 263) #[] #[.pointer (some ⟨w.heap.size,0,none⟩),.pointer (some ⟨w.heap.size+1,0,none⟩)])∧w'=(w.alloc (.cells #[.slice a len cap] 28)).alloc (.cells #[.int .i64 sz] 3):=by
 refine callsIn_of_wp Tryz.func236 rfl g ?_ b;simp only[Tryz.ntmps236,dZ,bg,dr,Nat.reduceAdd,Nat.reduceSub,Array.replicate_succ,Array.replicate_zero,List.push_toArray,List.append_toArray,bC,ev]
 gi_wp2
 go_ret
 exact⟨by simp,rfl⟩
end Tryz
end Go.Proofs
namespace Go.Proofs
open Go.RowKit Go.Shelf Go.Am
attribute [local go_sem] Oper.semAt_some
namespace Tryz
theorem auK:(Tryz.prog.info? 2).map (fun i=>(i.zero,i.size,i.bytes))=some (some (.int .i64 0),1,8):=by kernel_rfl
theorem zr{W a:World}(h:W.Extends a){B:Nat}{t:TypeId}{v:Value}(b:Boxed W B t v):Boxed a B t v:=(h.block B b.lt).trans b
theorem ab0{w:World}{Z Zp:cD}{k:IntKind}{x:Int}{v:Value}(h:xQ w Z Zp (.int k) x v):v= .int k x:=by
 have:PR w Z Zp (.int k) x [v]:=h;simp only[PR]at this;injection this
theorem Ep{R:Type}{c:Bool}{x y:Option R}{r:R}(h:av c x y=some r):(c=true∧x=some r)∨(c=false∧y=some r):=by
 cases c with
 |true=>exact .inl ⟨rfl,h⟩
 |false=>exact .inr ⟨rfl,h⟩
theorem aia{e:List Int×Int→Option Int}{Fd:List Int×List Int→Option Int}{xs a:List Int}{fx:Int}{r:List Int×Int}(h:OZ e Fd (xs,fx,a)=some r):
  ∃e0,e (xs,fx)=some e0∧((e0≠0∧r=([],e0))∨(e0=0∧((a.length:Nat):Int)≠fx∧r=([],80))∨
   (e0=0∧((a.length:Nat):Int)=fx∧1≤a.length∧a.length≤1000000000000∧xs.length≤1000000000∧∃out,uH (fun row=>Fd (row,a)) (chunks a.length xs)=some out∧r=(out,0))):=by
 unfold OZ at h;obtain⟨e0,d,h⟩:=Option.bind_eq_some_iff.1 h;refine⟨e0,d,?_⟩;rcases Ep h with⟨b,h⟩|⟨b,h⟩
 ·cases h;exact .inl ⟨by simpa using b,rfl⟩
 ·have b:e0=0:=by simpa using b
  rcases Ep h with⟨c,h⟩|⟨c,h⟩
  ·cases h;exact .inr (.inl ⟨b,by simpa using c,rfl⟩)
  ·have c:((a.length:Nat):Int)=fx:=by simpa using c
   rcases Ep h with⟨g,h⟩|⟨g,h⟩
   ·simp only[ak,decide_eq_true_eq]at g;obtain⟨out,i,h⟩:=Option.bind_eq_some_iff.1 h
    cases h;subst c;rw[ax]at i;exact .inr (.inr ⟨b,rfl,by omega,by omega,by omega,out,i,rfl⟩)
   ·cases h
theorem W9{w0 w w':World}(c:w0.Extends w)(g:w'.os=w.os)(h:w'.tape=w.tape)(j:w'.output=w.output)(k:w.heap.size≤w'.heap.size)(l:∀i:Nat,i<w0.heap.size→w'.heap[i]? =w.heap[i]?):w0.Extends w':=by
 have b:∀i:Nat,i<w0.heap.size→w'.heap[i]? =w0.heap[i]? :=fun i e=>(l i e).trans (c.block i e)
 exact⟨g.trans c.os,h.trans c.tape,j.trans c.output,ei c.size k,fun a d=>bW (b a.block d),fun a d=>World.frozen?_of_block (b a.block d),b⟩
def F0(a:Option Addr)(n k j:Nat):Value:=
 match a with
 |some ⟨b,c,none⟩=> .slice (some ⟨b,c+j*k,none⟩) (min k (n -j*k)) (min k (n -j*k))
 |_=> .slice none 0 0
theorem aib{w:World}{Z Zp:cD}:PR w Z Zp (.sl (.int .i64)) ([]:List Int) [.slice none 0 0]:=⟨none,0,[],rfl,az _,rfl,fun h=>absurd rfl h⟩
theorem yA{w:World}{Z Zp:cD}{k:IntKind}:∀(l:List Int) (b:List Value),dR (PR w Z Zp (.int k)) l b↔b=l.map (bu k)
 |[],b=>Iff.rfl
 |x::l,b=>by
  simp only[dR,cb];constructor
  ·rintro⟨d,a,rfl,c,e⟩;have c:d=[.int k x]:=c;rw[c,(yA l a).1 e];rfl
  ·rintro rfl;exact⟨[.int k x],_,rfl,rfl,(yA l _).2 rfl⟩
theorem akD{w:World}{Z Zp:cD}{k:IntKind}{a0:Option Addr}{q:Nat}{xs:List Int}(p:q=xs.length){n:List Value}(g:dR (PR w Z Zp (.int k)) xs n)(e:At w Z a0 n)(sz j:Nat):
  PR w Z Zp (.sl (.int k)) ((xs.drop (j*sz)).take sz) [F0 a0 q sz j]:=by
 have z:=(yA xs n).1 g;subst z
 cases xs with
 |nil=>
  subst p;have:∀a0,∃a,F0 a0 (af ([]:List Int)) sz j= .slice a 0 0:=by
   intro a0;unfold F0
   split
   ·exact⟨some ⟨_,_,none⟩,by simp;exact⟨rfl,rfl⟩⟩
   ·exact⟨_,rfl⟩
  obtain⟨a,this⟩:=this a0;rw[this];have B:(([]:List Int).drop (j*sz)).take sz=[]:=by simp
  refine cast (congrArg (fun l:List Int=>PR w Z Zp (.sl (.int k)) l [.slice a 0 0]) B.symm) ?_;exact⟨a,0,[],rfl,az _,rfl,fun h=>absurd rfl h⟩
 |cons y l=>
  obtain⟨b,d,rfl,t⟩:=e (by simp);subst p;have o:af (((y::l).drop (j*sz)).take sz)=min sz ((y::l).length -j*sz):=by simp
  refine⟨some ⟨b,d+j*sz,none⟩,min sz ((y::l).length -j*sz),((((y::l).drop (j*sz)).take sz).map (bu k)),?_,?_,(yA _ _).2 rfl,fun _=>⟨b,d+j*sz,rfl,fun i u c=> ?_⟩⟩
  ·show _=[Value.slice _ (af (((y::l).drop (j*sz)).take sz)) _];rw[o];rfl
  ·exact Nat.le_of_eq o
  ·rw[List.getElem?_map]at c;have r:(((y::l).drop (j*sz)).take sz)[i]? =if i<sz then(y::l)[j*sz+i]? else none:=by
    rw[db]
    split
    ·rw[List.getElem?_drop]
    ·rfl
   rw[r]at c
   split at c
   ·rename_i x;have:=t (j*sz+i) u (by rw[List.getElem?_map];exact c);rw[eZ];exact this
   ·cases c
theorem ara{W d:World}(h:W.Extends d){base e size:Nat}{v:Value}{n:Nat}{xs:List Value}(j:W.ownsRow base e size v n xs):d.ownsRow base e size v n xs:=by
 refine⟨j.1,?_⟩;rcases j.2 with c |⟨g,a,b,c,k,i,l⟩
 ·exact .inl c
 ·exact .inr ⟨g,a,b,c,k,(h.block g (Array.getElem?_eq_some_iff.1 i).1).trans i,l⟩
theorem aov{w w':World}{Z:cD}{base e:Nat}{v:Value}{l:List Int}(t:w.heap.size≤base)(p:w'.ownsRow base e 1 v l.length (l.map (bu .i64))):PR w' (Ym Z w w') jC (.sl (.int .i64)) l [v]:=by
 rcases p.2 with⟨d,h⟩|⟨g,b,c,d,h,i,k,q,r,n⟩
 ·rw[d];have:l=[]:=List.length_eq_zero_iff.1 h;subst this;exact aib
 ·rw[d];have o:=(Array.getElem?_eq_some_iff.1 i).1;refine⟨_,b,l.map (bu .i64),rfl,k,(yA _ _).2 rfl,fun _=>⟨g,0,rfl,fun j u a=>⟨?_,.inr ⟨by omega,o⟩⟩⟩⟩;rw[←n,db]at a
  split at a
  ·have:c[j]? =some u:=by rw[←cC];exact a
   simp[World.cell?,i,this]
  ·cases a
theorem arb{w w':World}{Z:cD}{l:List Int}{n:Int}{a:Value}(h:w.Extends w')(k:PR w' (Ym Z w w') jC (.sl (.int .i64)) l [a]){e:Ending}(b:e= .returned (.tuple #[a,.int .i64 n])):
 ∃v,e= .returned v∧w.Extends w'∧OU w' (Ym Z w w') jC [.sl (.int .i64),.int .i64] (l,n) v:=⟨_,b,h,_,rfl,_,_,rfl,k,_,rfl,rfl⟩
set_option maxRecDepth 100000 in
set_option maxHeartbeats 2000000 in
theorem akE{Fm:List Int×Int→Option Int}{Fd:List Int×List Int→Option Int}(hm:aq Tryz.prog 235 ⟨[.sl (.int .i8),.int .i64],[.int .i64],Fm⟩)(hd:aq Tryz.prog 237 ⟨[.sl (.int .i8),.sl (.int .i8)],[.int .i64],Fd⟩)
  (w:World) (Z Zp:cD) (xs:List Int) (fx:Int) (Y:List Int) (r:List Int×Int) (v0 v2:Value) (hz:∀b i,Z b i→b<w.heap.size) (hzp:∀b i,Zp b i→b<w.heap.size)
  (h0:PR w Z Zp (.sl (.int .i8)) xs [v0]) (h2:PR w Z Zp (.sl (.int .i8)) Y [v2]) (e:OZ Fm Fd (xs,fx,Y)=some r):
  Calls Tryz.prog 201 #[v0,.int .i64 fx,v2] w fun e w'=>∃v,e= .returned v∧w.Extends w'∧OU w' (Ym Z w w') jC [.sl (.int .i64),.int .i64] r v:=by
 obtain⟨e0,he0,e⟩:=aia e;have H:w.Extends (w.alloc (.cells #[v2] 28)):=(World.Extends.refl w).alloc _;have kz:dG w (w.alloc (.cells #[v2] 28)) Z Z:=fun b i E=>⟨E,H.cell _ (hz b i E)⟩;have kzp:dG w (w.alloc (.cells #[v2] 28)) Zp Zp:=fun b i E=>⟨E,H.cell _ (hzp b i E)⟩;have hcm:=hm.calls (w.alloc (.cells #[v2] 28)) Z Zp (xs,fx) e0 [v0,.int .i64 fx] (fun b i E=>by have:=hz b i E;simp;omega) (fun b i E=>by have:=hzp b i E;simp;omega) ⟨v0,_,rfl,PR.mono kz kzp _ _ _ h0,_,rfl,rfl⟩ he0;replace hcm:Calls Tryz.prog 235 #[v0,.int .i64 fx] (w.alloc (.cells #[v2] 28)) fun e w'=>e= .returned (.int .i64 e0)∧(w.alloc (.cells #[v2] 28)).Extends w':=
  hcm.mono fun e w' ⟨v,he,g,hres⟩=>⟨by rw[he,ab0 (show xQ w' (Ym Z (w.alloc (.cells #[v2] 28)) w') jC (.int .i64) e0 v from hres)],g⟩
 have h0':=h0;have h2':=h2;obtain⟨a0,B,us0,q1,hlc,hus,hat⟩:=h0';obtain⟨a2,u,us2,q2,_,_,_⟩:=h2';obtain⟨I,Q⟩:∃n,Hid (n=af xs):=⟨_,rfl⟩;obtain⟨d,hn2⟩:∃n,Hid (n=af Y):=⟨_,rfl⟩;have e1:v0= .slice a0 I B:=by rw[Q.out];injection q1
 have e2:v2= .slice a2 d u:=by rw[hn2.out];injection q2
 clear q1 q2;subst e1;subst e2;refine(callsIn_wide (n:=5)).1 ?_;refine callsIn_of_wp_marks Tryz.func201 rfl trivial ?_ rfl;simp only[Tryz.ntmps201,dZ,bg,dr,Nat.reduceAdd,Nat.reduceSub,Array.replicate_succ,Array.replicate_zero,List.push_toArray,List.append_toArray,bC,ev];rcases e with⟨h00,rfl⟩|⟨rfl,T,rfl⟩|⟨rfl,T,N,hg2,hg3,oK,auL,rfl⟩
 ·gi_wp2_with (refine⟨trivial,?_⟩;gi_at_call 235;refine(callsIn_wide.2 hcm).mono ?_;rintro e z ⟨rfl,g⟩;have M:=zr g (Boxed.new w 28 (.slice a2 d u));have hcX:=M.cell)
  exact⟨_,results_tmp2 rfl _ _ _,arb (H.trans g) aib rfl⟩
 ·rw[←hn2.out]at T
  gi_wp2_with (refine⟨trivial,?_⟩;gi_at_call 235;refine(callsIn_wide.2 hcm).mono ?_;rintro e z ⟨rfl,g⟩;have M:=zr g (Boxed.new w 28 (.slice a2 d u));have hcX:=M.cell)
  exact⟨_,results_tmp2 rfl _ _ _,arb (H.trans g) aib rfl⟩
 ·rw[←hn2.out]at T N hg2;rw[←Q.out]at hg3;subst T
  gi_wp2_with (first
     |(refine⟨trivial,?_⟩;gi_at_call 235;refine(callsIn_wide.2 hcm).mono ?_;rintro e z ⟨rfl,g⟩;have M:=zr g (Boxed.new w 28 (.slice a2 d u));have hcX:=M.cell)
     |(refine⟨trivial,?_⟩;gi_at_call 236;refine(Tryz.akC _ _ trivial rfl _ _ _ _ (by omega) (by omega) _).mono ?_;rintro e w' ⟨rfl,rfl⟩))
  have hK0:∀j,PR w Z Zp (.sl (.int .i8)) ((xs.drop (j*d)).take d) [F0 a0 I d j]:=fun j=>akD Q.out hus hat d j;have hpos:0<I→∀j,j<pcs I d→∃y,Fd ((xs.drop (j*d)).take d,Y)=some y:=fun _ j X=>by
   refine aky _ _ _ auL _ ?_;rw[←hn2.out];simp only[chunks,upto,List.mem_map,List.mem_range];exact⟨j,by rw[←Q.out];exact X,rfl⟩
  let α:={ p:Value×List Int // PR w Z Zp (.sl (.int .i8)) p.2 [p.1]∧(0<I→∃y,Fd (p.2,Y)=some y) }
  have hz0:∀j,j<pcs I d∨j=0→PR w Z Zp (.sl (.int .i8)) ((xs.drop (j*d)).take d) [F0 a0 I d j]∧(0<I→∃y,Fd ((xs.drop (j*d)).take d,Y)=some y):=fun j X=>⟨hK0 j,fun h=>hpos h j (by
   rcases X with X |X
   ·exact X
   ·rw[X];exact(O1 N).2 (by omega))⟩
  let fj:Nat→α:=fun j=>if h:j<pcs I d then⟨(F0 a0 I d j,(xs.drop (j*d)).take d),hz0 j (.inl h)⟩else⟨(F0 a0 I d 0,(xs.drop (0*d)).take d),hz0 0 (.inr rfl)⟩
  let t:List α→List Int:=fun a=>(uH (fun S=>Fd (S,Y)) (a.map fun x=>x.1.2)).getD []
  obtain⟨w4,R⟩:∃w4,((z.alloc (.cells #[.slice none 0 0] 126)).alloc (.cells #[.slice a0 I B] 28)).alloc (.cells #[.int .i64 (d:Int)] 3)=w4:=⟨_,rfl⟩;have bO:Boxed w4 z.heap.size 126 (.slice none 0 0):=by rw[←R];exact((Boxed.new z _ _).alloc _).alloc _
  have bS:Boxed w4 (z.heap.size+1) 28 (.slice a0 I B):=by rw[←R];have:=(Boxed.new (z.alloc (.cells #[.slice none 0 0] 126)) 28 (.slice a0 I B)).alloc (.cells #[.int .i64 (d:Int)] 3);rwa[World.size_alloc]at this
  have bN:Boxed w4 (z.heap.size+1+1) 3 (.int .i64 (d:Int)):=by rw[←R];have:=Boxed.new ((z.alloc (.cells #[.slice none 0 0] 126)).alloc (.cells #[.slice a0 I B] 28)) 3 (.int .i64 (d:Int));rwa[World.size_alloc,World.size_alloc]at this
  have bX:Boxed w4 w.heap.size 28 (.slice a2 d u):=by rw[←R];exact((M.alloc _).alloc _).alloc _
  have hsz:w4.heap.size=z.heap.size+3:=by rw[←R];simp
  have hB4:Below z.heap.size z w4:=by rw[←R];exact(((Below.refl _ z).alloc (az _) _).alloc (by simp) _).alloc (by simp;omega) _
  have ax4:w.heap.size<z.heap.size:=by have:=g.size;simp at this;omega
  rw[R];have hstops:=Tryz.W8 (α:=α) Fence.wide 4 trivial rfl (by omega) (z.heap.size+1) (z.heap.size+1+1) a0 I B d (by rw[Q.out];exact hlc) hg3 N hg2 (fun x=>x.1.1) fj (by
   by_cases hn:I=0
   ·exact .inl hn
   ·right;have hne:us0≠[]:=by
     intro h;rw[h]at hus;have:=(yA xs []).1 hus;have hx:xs=[]:=by simpa using this.symm
     have:=Q.out;rw[hx]at this;exact hn this
    obtain⟨b,off,rfl,_⟩:=hat hne;refine⟨b,off,rfl,fun j X=> ?_⟩;have hj':j<pcs I d:=(O1 N).2 X;simp only[fj];rw[dif_pos hj'];rfl) w4 (by omega) (by omega) bS.cell bN.cell
  refine wpIn_rangeFunc_ownG (F:=Fence.wide) rfl (by omega) (gf:=263) (lb:= #[.pointer (some ⟨z.heap.size+1,0,none⟩),.pointer (some ⟨z.heap.size+1+1,0,none⟩)]) rfl trivial (enters_of Tryz.func263 (by kernel_rfl) rfl)
   hstops KpC.trans (fun W l o o' hl hlo hoc _=>⟨World.putObj_heap_other (by omega),World.putObj_heap_other (by omega)⟩) (Below.refl _ _) (fun _=>rfl)
   (fun a W=>(∃v,Boxed W z.heap.size 126 v∧W.ownsRow z.heap.size 2 1 v (t a).length ((t a).map (bu .i64))∧∃o,uH (fun S=>Fd (S,Y)) (a.map fun x=>x.1.2)=some o)∧Below z.heap.size z W∧Boxed W (z.heap.size+1) 28 (.slice a0 I B)∧Boxed W (z.heap.size+1+1) 3 (.int .i64 (d:Int)))
   (fun _ _ _=>False)
   (OwnFrom.and (Own.from (holdsRow_own z.heap.size z.heap.size 126 2 1 (fun a=>(t a).length) (fun a=>(t a).map (bu .i64)) (fun a v=>∃o,uH (fun S=>Fd (S,Y)) (a.map fun x=>x.1.2)=some o)) _) (OwnFrom.and (ownFrom_below (az _) (by omega)) (OwnFrom.and (Own.from (boxed_own (β:=List α) _ _ (fun _=>_)) _) (Own.from (boxed_own (β:=List α) _ _ (fun _=>_)) _))))
   (fun _ _ _ _ _ hs _ _=>hs)
   ⟨⟨_,bO,World.ownsRow_nil _ _ _ _,[],rfl⟩,hB4,bS,bN⟩
   (fun x=>{ tmps:= #[Value.slice a0 I B,bu bz d,Value.slice a2 d u,undef,undef,
     Value.pointer (some { block:=w.heap.size,off:=0 }),Value.slice none 0 0,bu bz 0,
     bu bz 0,Value.pointer (some { block:=z.heap.size,off:=0 }),x.1.1,
     Value.slice a0 I B,bu bz d,bu bz 0,bu bz 0,
     Value.bool false,undef,Value.slice a2 d u,bu bz d,bu bz d,
     Value.bool false,Value.slice a0 I B,bu bz d,
     Value.func (Fn.func 263) #[]
      #[Value.pointer (some { block:=z.heap.size+1,off:=0 }),
       Value.pointer (some { block:=z.heap.size+1+1,off:=0 })],
     x.1.1,undef,undef,undef,undef,undef,undef,undef],defers:=[] }) ?assign ?body ?done ?stop
  case assign=>
   intro l x W K hK
   gi_wp2
   exact hK
  case stop=>
   rintro D c a W _ _ h _;exact h.elim
  case body=>
   rintro l a x W ⟨⟨v,hv,U,o,ho⟩,V,bS',bN'⟩ hlt;have hpre:a.length<1000000000:=by
    have h1:=(O1 N).1 hlt;have h2:a.length≤a.length*d:=cy _ N;omega
   have hol:(t a).length=a.length:=by
    simp only[t];rw[ho,Option.getD_some,akz _ _ _ ho,dc]
   have avi:0<I:=by have:=(O1 N).1 hlt;omega
   obtain⟨y,hy⟩:=x.2.2 avi;have az1:Boxed W w.heap.size 28 (.slice a2 d u):=(V.block _ ax4).trans M;have aDF:=az1.cell;have hcO:=hv.cell;have ax5:(w.alloc (.cells #[.slice a2 d u] 28)).Extends z:=g;have J:∀b i,b<w.heap.size→W.cell? ⟨b,i,none⟩=w.cell? ⟨b,i,none⟩:=fun b i E=>(bW (V.block b (by omega))).trans ((ax5.cell _ (by simp;omega)).trans (H.cell _ E));have ax6:w.heap.size≤W.heap.size:=by have:=V.size;omega
   have hdc:=hd.calls W.drew Z Zp (x.1.2,Y) y [x.1.1,.slice a2 d u] (fun b i E=>ca (hz b i E) ax6) (fun b i E=>ca (hzp b i E) ax6)
    ⟨_,_,rfl,PR.mono (fun b i E=>⟨E,J b i (hz b i E)⟩) (fun b i E=>⟨E,J b i (hzp b i E)⟩) _ _ _ x.2.1,_,rfl,PR.mono (fun b i E=>⟨E,J b i (hz b i E)⟩) (fun b i E=>⟨E,J b i (hzp b i E)⟩) _ _ _ h2⟩ hy
   replace hdc:Calls Tryz.prog 237 #[x.1.1,.slice a2 d u] W.drew fun e w'=>e= .returned (.int .i64 y)∧W.drew.Extends w':=
    hdc.mono fun e w' ⟨v,he,g,hres⟩=>⟨by rw[he,ab0 (show xQ w' (Ym Z W.drew w') jC (.int .i64) y v from hres)],g⟩
   have ho2:uH (fun S=>Fd (S,Y)) ((a++[x]).map fun x=>x.1.2)=some (o++[y]):=by
    rw[eu];exact Uy _ _ _ _ _ ho hy
   have hou:t (a++[x])=t a++[y]:=by
    simp only[t];rw[ho2,ho];rfl
   have hmx:Tryz.prog.follows .mixedOrders=true:=by kernel_rfl
   obtain⟨i0,hi,hz0,hz1,hz2⟩:=info_parts auK
   gi_wp2
   gi_region_with_o (refine⟨trivial,?_⟩;gi_at_call 237;refine(CallsIn.inRound l (callsIn_wide.2 hdc)).mono ?_;rintro e W5 ⟨rfl,q⟩;have hv5:=zr (W:=W.drew) q hv;have L:=ara (W:=W.drew) q U;have aDI:=hv5.cell;have aDJ:=(hv5.alloc (.cells #[.int .i64 y] 2)).cell;have ax7:W.heap.size≤W5.heap.size:=q.size;obtain⟨v',w1,hrun,hown',O,_⟩:=run_append_own (P:=Tryz.prog) (w:=W5.alloc (.cells #[.int .i64 y] 2)) z.heap.size 126 126 2 i0 (.int .i64 0) 1 8 Tryz.underlying126 hi hz0 hz1 hz2 rfl (by decide) v _ _ (L.alloc _) ⟨W5.heap.size,0,none⟩ 1 1 [.int .i64 y] rfl (cell_one_new _ _ _) (by simp[Value.oneCell']) (by rw[hol];unfold maxLen;omega) (by omega) (by have:=V.size;simp;omega);obtain⟨g',cap',rfl⟩:=ownsRow_succ hown';obtain⟨hv1,hv2,hr2,hk2,hb2⟩:=hv5.appended (by decide) L (by have:=V.size;omega) (az _) hown' O;have hc1:=hv1.cell;have hf1:=hv1.frozen;simp[go_sem]at hrun)
   all_goals clear hrun
   all_goals rw[←hol]
   all_goals have hk5:KeepsOthers W W5:=⟨ax7,fun k o hk _=>(q.block k (Array.getElem?_eq_some_iff.1 hk).1).trans hk⟩
   all_goals have hb5:Below z.heap.size W W5:=⟨q.os,q.tape,q.output,ax7,fun k hk=>q.block k (by have:=V.size;show k<W.heap.size;omega)⟩
   all_goals have bS5:=zr (W:=W.drew) q bS'
   all_goals have bN5:=zr (W:=W.drew) q bN'
   all_goals have bS6:=((bS5.alloc _).kept O (bS5.not_row (by decide) L)).other (B':=z.heap.size) (by omega) (.slice (some ⟨g',0,none⟩) ((t a).length+1) cap')
   all_goals have bN6:=((bN5.alloc _).kept O (bN5.not_row (by decide) L)).other (B':=z.heap.size) (by omega) (.slice (some ⟨g',0,none⟩) ((t a).length+1) cap')
   all_goals exact⟨(hk5.trans hk2).from _,⟨bS6.trans bS'.symm,bN6.trans bN'.symm⟩,⟨_,hv2,by rw[hou];simpa using hr2,_,ho2⟩,V.trans (hb5.trans hb2),bS6,bN6⟩
  case done=>
   rintro D a W hD rfl ⟨⟨v,hv,U,o,ho⟩,V,bS',bN'⟩ hK;have hc:=hv.cell
   gi_wp2
   refine⟨by simp,.inl ⟨_,_,rfl,run_takeDeferred hK,?_⟩⟩;refine⟨_,results_tmp2 rfl _ _ _,?_⟩;have hD0:z.heap.size≤D:=by omega
   have ah2:w.Extends (W.putObj D (.deferred none)):=by
    refine W9 (H.trans g) (V.os) (V.tape) (V.output) (by have:=V.size;simp;omega) fun i hi=> ?_;rw[World.putObj_heap_other (by omega)];exact V.block i (by omega)
   have hch:((upto fj (pcs I d)).map fun x=>x.1.2)=chunks Y.length xs:=by
    simp only[chunks,upto,List.map_map];rw[←hn2.out,←Q.out];refine ft fun j X=> ?_;have X:=List.mem_range.1 X;simp only[Function.comp,fj];rw[dif_pos X]
   have hout:t (upto fj (pcs I d))=oK:=by
    simp only[t];rw[hch,auL];rfl
   rw[hout]at U;exact arb ah2 (aov (by omega) (ownsRow_putObj U _ hK rfl)) rfl
theorem aic{c:List Int×Int→Option Int}{Fd:List Int×List Int→Option Int}(hm:aq Tryz.prog 235 ⟨[.sl (.int .i8),.int .i64],[.int .i64],c⟩)(k:aq Tryz.prog 237 ⟨[.sl (.int .i8),.sl (.int .i8)],[.int .i64],Fd⟩):
  aq Tryz.prog 201 ⟨[.sl (.int .i8),.int .i64,.sl (.int .i8)],[.sl (.int .i64),.int .i64],OZ c Fd⟩:=by
 refine⟨⟨f201,func201,by kernel_rfl,by kernel_rfl⟩,rfl,fun w Z g x r d l b j e=> ?_⟩;obtain⟨v0,_,rfl,h,n,_,rfl,a,o,rfl,i⟩:=j;have a:n= .int .i64 x.2.1:=ab0 a;subst a;exact akE hm k w Z g x.1 x.2.1 x.2.2 r v0 o l b h i e
end Tryz
end Go.Proofs
namespace Go.Proofs
open Go.RowKit Go.Shelf Go.Am Go.IntWalk
attribute [local go_sem] Oper.semAt_some
namespace Tryz
theorem aid{d:List Int×Int→Option Int}{xs:List Int}{fx:Int}{r:List Int×Int}(h:O0 d (xs,fx)=some r):
  ∃e0,d (xs,fx)=some e0∧((e0≠0∧r=([],e0))∨(e0=0∧1≤fx∧fx≤1000000000000∧xs.length≤1000000000∧r=((chunks fx.toNat xs).map Eo,0))):=by
 unfold O0 at h;obtain⟨e0,c,h⟩:=Option.bind_eq_some_iff.1 h;refine⟨e0,c,?_⟩;rcases Ep h with⟨a,h⟩|⟨a,h⟩
 ·cases h;exact .inl ⟨by simpa using a,rfl⟩
 ·have a:e0=0:=by simpa using a
  rcases Ep h with⟨b,h⟩|⟨b,h⟩
  ·simp only[ak,decide_eq_true_eq]at b
   cases h;exact .inr ⟨a,b.1.1,b.1.2,b.2,rfl⟩
  ·cases h
theorem amY(row:List Int)(j:Nat)(x:Int)(h:row[j]? =some x):Eo (row.take (j+1))=abZ (Eo (row.take j)) x:=by
 unfold Eo;rw[dK,h,Option.toList_some,List.foldl_append];rfl
theorem aya{m j:Nat}(h:j<m):m -(intOf (.int .i64 ((j+1:Nat):Int))).toNat<m -(intOf (.int .i64 (j:Int))).toNat:=by simp[intOf];omega
set_option maxRecDepth 100000 in
set_option maxHeartbeats 4000000 in
theorem akF{Fm:List Int×Int→Option Int}(hm:aq Tryz.prog 235 ⟨[.sl (.int .i8),.int .i64],[.int .i64],Fm⟩)
  (w:World) (Z Zp:cD) (xs:List Int) (fx:Int) (r:List Int×Int) (v0:Value) (hz:∀b i,Z b i→b<w.heap.size) (hzp:∀b i,Zp b i→b<w.heap.size)
  (h0:PR w Z Zp (.sl (.int .i8)) xs [v0]) (e:O0 Fm (xs,fx)=some r):
  Calls Tryz.prog 226 #[v0,.int .i64 fx] w fun e w'=>∃v,e= .returned v∧w.Extends w'∧OU w' (Ym Z w w') jC [.sl (.int .i64),.int .i64] r v:=by
 obtain⟨e0,he0,e⟩:=aid e;have R:=hm.calls w Z Zp (xs,fx) e0 [v0,.int .i64 fx] hz hzp ⟨v0,_,rfl,h0,_,rfl,rfl⟩ he0;replace R:Calls Tryz.prog 235 #[v0,.int .i64 fx] w fun e w'=>e= .returned (.int .i64 e0)∧w.Extends w':=
  R.mono fun e w' ⟨v,he,t,hres⟩=>⟨by rw[he,ab0 (show xQ w' (Ym Z w w') jC (.int .i64) e0 v from hres)],t⟩
 have h0':=h0;obtain⟨a0,g,us0,q1,hlc,hus,hat⟩:=h0';obtain⟨J,E⟩:∃n,Hid (n=af xs):=⟨_,rfl⟩;have e1:v0= .slice a0 J g:=by rw[E.out];injection q1
 clear q1;subst e1;refine(callsIn_wide (n:=5)).1 ?_;refine callsIn_of_wp_marks Tryz.func226 rfl trivial ?_ rfl;simp only[Tryz.ntmps226,dZ,bg,dr,Nat.reduceAdd,Nat.reduceSub,Array.replicate_succ,Array.replicate_zero,List.push_toArray,List.append_toArray,bC,ev];rcases e with⟨h00,rfl⟩|⟨rfl,S,hg2,hg3,rfl⟩
 ·gi_wp2_with (refine⟨trivial,?_⟩;gi_at_call 235;refine(callsIn_wide.2 R).mono ?_;rintro e k ⟨rfl,t⟩)
  exact⟨_,results_tmp2 rfl _ _ _,arb t aib rfl⟩
 ·obtain⟨z,rfl⟩:∃z:Nat,fx=(z:Int):=⟨fx.toNat,by omega⟩;have S:1≤z:=by omega
  have hg2:z≤1000000000000:=by omega
  rw[←E.out]at hg3;rw[ax]
  gi_wp2_with (first
     |(refine⟨trivial,?_⟩;gi_at_call 235;refine(callsIn_wide.2 R).mono ?_;rintro e k ⟨rfl,t⟩)
     |(refine⟨trivial,?_⟩;gi_at_call 236;refine(Tryz.akC _ _ trivial rfl _ _ _ _ (by omega) (by omega) _).mono ?_;rintro e w' ⟨rfl,rfl⟩))
  have hK0:∀j,PR w Z Zp (.sl (.int .i8)) ((xs.drop (j*z)).take z) [F0 a0 J z j]:=fun j=>akD E.out hus hat z j
  let α:={ p:Value×List Int // PR w Z Zp (.sl (.int .i8)) p.2 [p.1]∧p.2.length≤1000000000 }
  let fj:Nat→α:=fun j=>⟨(F0 a0 J z j,(xs.drop (j*z)).take z),hK0 j,by have:=E.out;simp only[aC,dE];omega⟩
  let d:List α→List Int:=fun a=>a.map fun x=>Eo x.1.2
  obtain⟨Y,L⟩:∃Y,((k.alloc (.cells #[.slice none 0 0] 126)).alloc (.cells #[.slice a0 J g] 28)).alloc (.cells #[.int .i64 (z:Int)] 3)=Y:=⟨_,rfl⟩;have bO:Boxed Y k.heap.size 126 (.slice none 0 0):=by rw[←L];exact((Boxed.new k _ _).alloc _).alloc _
  have bS:Boxed Y (k.heap.size+1) 28 (.slice a0 J g):=by rw[←L];have:=(Boxed.new (k.alloc (.cells #[.slice none 0 0] 126)) 28 (.slice a0 J g)).alloc (.cells #[.int .i64 (z:Int)] 3);rwa[World.size_alloc]at this
  have bN:Boxed Y (k.heap.size+1+1) 3 (.int .i64 (z:Int)):=by rw[←L];have:=Boxed.new ((k.alloc (.cells #[.slice none 0 0] 126)).alloc (.cells #[.slice a0 J g] 28)) 3 (.int .i64 (z:Int));rwa[World.size_alloc,World.size_alloc]at this
  have hsz:Y.heap.size=k.heap.size+3:=by rw[←L];simp
  have hB4:Below k.heap.size k Y:=by rw[←L];exact(((Below.refl _ k).alloc (az _) _).alloc (by simp) _).alloc (by simp;omega) _
  have ax4:w.heap.size≤k.heap.size:=t.size;rw[L];have U:=Tryz.W8 (α:=α) Fence.wide 4 trivial rfl (by omega) (k.heap.size+1) (k.heap.size+1+1) a0 J g z (by rw[E.out];exact hlc) hg3 S hg2 (fun x=>x.1.1) fj (by
   by_cases hn:J=0
   ·exact .inl hn
   ·right;have hne:us0≠[]:=by
     intro h;rw[h]at hus;have:=(yA xs []).1 hus;have hx:xs=[]:=by simpa using this.symm
     have:=E.out;rw[hx]at this;exact hn this
    obtain⟨b,off,rfl,_⟩:=hat hne;exact⟨b,off,rfl,fun j hj=>rfl⟩) Y (by omega) (by omega) bS.cell bN.cell
  refine wpIn_rangeFunc_ownG (F:=Fence.wide) rfl (by omega) (gf:=263) (lb:= #[.pointer (some ⟨k.heap.size+1,0,none⟩),.pointer (some ⟨k.heap.size+1+1,0,none⟩)]) rfl trivial (enters_of Tryz.func263 (by kernel_rfl) rfl)
   U KpC.trans (fun W l o o' hl hlo hoc _=>⟨World.putObj_heap_other (by omega),World.putObj_heap_other (by omega)⟩) (Below.refl _ _) (fun _=>rfl)
   (fun a W=>(∃v,Boxed W k.heap.size 126 v∧W.ownsRow k.heap.size 2 1 v (d a).length ((d a).map (bu .i64))∧True)∧Below k.heap.size k W∧Boxed W (k.heap.size+1) 28 (.slice a0 J g)∧Boxed W (k.heap.size+1+1) 3 (.int .i64 (z:Int)))
   (fun _ _ _=>False)
   (OwnFrom.and (Own.from (holdsRow_own k.heap.size k.heap.size 126 2 1 (fun a=>(d a).length) (fun a=>(d a).map (bu .i64)) (fun a v=>True)) _) (OwnFrom.and (ownFrom_below (az _) (by omega)) (OwnFrom.and (Own.from (boxed_own (β:=List α) _ _ (fun _=>_)) _) (Own.from (boxed_own (β:=List α) _ _ (fun _=>_)) _))))
   (fun _ _ _ _ _ hs _ _=>hs)
   ⟨⟨_,bO,World.ownsRow_nil _ _ _ _,trivial⟩,hB4,bS,bN⟩
   (fun x=>{ tmps:= #[Value.slice a0 J g,bu bz z,undef,undef,Value.slice none 0 0,bu bz 0,bu bz 0,
     Value.pointer (some { block:=k.heap.size,off:=0 }),x.1.1,undef,undef,undef,
     Value.slice a0 J g,bu bz z,bu bz 0,bu bz 0,
     Value.bool false,undef,Value.slice a0 J g,bu bz z,
     Value.func (Fn.func 263) #[]
      #[Value.pointer (some { block:=k.heap.size+1,off:=0 }),
       Value.pointer (some { block:=k.heap.size+1+1,off:=0 })],
     x.1.1,undef,undef,undef,undef,undef,undef,undef,undef,undef,undef,undef,undef,undef,undef,undef,undef,undef,undef,undef,undef],defers:=[] }) ?assign ?body ?done ?stop
  case assign=>
   intro l x W K hK
   gi_wp2
   exact hK
  case stop=>
   rintro D c a W _ _ h _;exact h.elim
  case body=>
   rintro l a x W ⟨⟨v,hv,u,-⟩,N,Q,O⟩ hlt;have hpre:a.length<1000000000:=by
    have h1:=(O1 S).1 hlt;have h2:a.length≤a.length*z:=cy _ S;omega
   have hol:(d a).length=a.length:=by simp only[d];rw[dc]
   have hcO:=hv.cell;have hcell:∀b i,b<w.heap.size→W.cell? ⟨b,i,none⟩=w.cell? ⟨b,i,none⟩:=fun b i hb=>(bW (N.block b (by omega))).trans (t.cell _ hb);have T:∀x,d (a++[x])=d a++[Eo x.1.2]:=fun x=>by simp only[d,eu,cb,List.map_nil]
   obtain⟨i0,hi,hz0,hz1,hz2⟩:=info_parts auK;obtain⟨⟨ab,az3,usb,q2,hlb,I,az5⟩,hrl⟩:=x.2;obtain⟨q,hrw⟩:∃q,x.1.2=q:=⟨_,rfl⟩;rw[hrw]at q2 hlb I hrl;have T:=T x;rw[hrw]at T;obtain⟨m,M⟩:∃n,Hid (n=af q):=⟨_,rfl⟩;have e2:x.1.1= .slice ab m az3:=by rw[M.out];injection q2
   clear q2;rw[e2];have ayb:=run_append_own (P:=Tryz.prog) (w:=W.alloc (.cells #[.int .i64 (Eo q)] 2)) k.heap.size 126 126 2 i0 (.int .i64 0) 1 8 Tryz.underlying126 hi hz0 hz1 hz2 rfl (by decide) v _ _ (u.alloc _) ⟨W.heap.size,0,none⟩ 1 1 [.int .i64 (Eo q)] rfl (cell_one_new _ _ _) (by simp[Value.oneCell']) (by rw[hol];unfold maxLen;omega) (by omega) (by have:=N.size;simp;omega);obtain⟨v',w1,X,H,B,_⟩:=ayb;obtain⟨g',V,rfl⟩:=ownsRow_succ H;obtain⟨hv1,hv2,hr2,hk2,hb2⟩:=hv.appended (by decide) u (by have:=N.size;omega) (az _) H B;have hc1:=hv1.cell;have hf1:=hv1.frozen;simp[go_sem]at X
   gi_wp2
   gi_loop [9,24] (fun s i=>∃j:Nat,i= .int .i64 (j:Int)∧j≤m∧s= .int .i64 (Eo (q.take j))) (fun s i=>m -(intOf i).toNat)
   case atStart=>exact⟨0,rfl,Nat.zero_le _,rfl⟩
   case round=>
    obtain⟨j,rfl,hj,rfl⟩:=hrel
    by_cases hjm:j<m
    ·have hne:usb≠[]:=by
      intro h;rw[h]at I;have:=(yA q []).1 I;have hx:q=[]:=by simpa using this.symm
      have:=M.out;rw[hx]at this;simp at this;omega
     obtain⟨b,off,rfl,hc⟩:=az5 hne;obtain⟨y,hy⟩:∃y,q[j]? =some y:=⟨q[j]'(by have:=M.out;omega),ai _⟩
     have az7:usb[j]? =some (.int .i8 y):=by rw[(yA q usb).1 I,List.getElem?_map,hy];rfl
     have hcy:=(hc j _ az7);have hcW:=(hcell b (off+j) (hz _ _ hcy.2)).trans hcy.1;have hstep:=amY q j y hy;clear X H B hv1 hv2 hr2 hk2 hb2 hc1 hf1
     gi_wp2
     have az8:wrap64 ((j:Int)+1)=((j+1:Nat):Int):=by
      have:=M.out;rw[wrap64_in _ (by omega)];omega
     rw[az8]
     go_round
     case rel=>
      refine⟨j+1,rfl,hjm,?_⟩;rw[hstep];simp only[abZ,imax,Int.zero_sub,IntWalk.i64_left,gt_iff_lt]
     case measure=>exact aya hjm
    ·obtain rfl:j=m:=Nat.le_antisymm hj (Nat.le_of_not_lt hjm);have hrt:q.take j=q:=aR (Nat.le_of_eq M.out.symm);rw[hrt]
     gi_wp2
     rw[←hol];have bS6:=((Q.alloc _).kept B (Q.not_row (by decide) u)).other (B':=k.heap.size) (by omega) (.slice (some ⟨g',0,none⟩) ((d a).length+1) V);have bN6:=((O.alloc _).kept B (O.not_row (by decide) u)).other (B':=k.heap.size) (by omega) (.slice (some ⟨g',0,none⟩) ((d a).length+1) V);exact⟨hk2.from _,⟨bS6.trans Q.symm,bN6.trans O.symm⟩,⟨_,hv2,by rw[T];simpa using hr2⟩,N.trans hb2,bS6,bN6⟩
  case done=>
   rintro D a W hD rfl ⟨⟨v,hv,u,-⟩,N,Q,O⟩ hK;have hc:=hv.cell
   gi_wp2
   refine⟨by simp,.inl ⟨_,_,rfl,run_takeDeferred hK,?_⟩⟩;refine⟨_,results_tmp2 rfl _ _ _,?_⟩;have ah2:w.Extends (W.putObj D (.deferred none)):=by
    refine W9 t (N.os) (N.tape) (N.output) (by have:=N.size;simp;omega) fun i hi=> ?_;rw[World.putObj_heap_other (by omega)];exact N.block i (by omega)
   have hout:d (upto fj (pcs J z))=(chunks z xs).map Eo:=by
    simp only[d,chunks,upto,List.map_map];rw[←E.out];rfl
   rw[hout]at u;exact arb ah2 (aov (by omega) (ownsRow_putObj u _ hK rfl)) rfl
theorem aie{c:List Int×Int→Option Int}(hm:aq Tryz.prog 235 ⟨[.sl (.int .i8),.int .i64],[.int .i64],c⟩):
  aq Tryz.prog 226 ⟨[.sl (.int .i8),.int .i64],[.sl (.int .i64),.int .i64],O0 c⟩:=by
 refine⟨⟨f226,func226,by kernel_rfl,by kernel_rfl⟩,rfl,fun w Z g x r d j b i e=> ?_⟩;obtain⟨v0,_,rfl,h,k,rfl,a⟩:=i;have a:k= .int .i64 x.2:=ab0 a;subst a;exact akF hm w Z g x.1 x.2 r v0 j b h e
end Tryz
end Go.Proofs
