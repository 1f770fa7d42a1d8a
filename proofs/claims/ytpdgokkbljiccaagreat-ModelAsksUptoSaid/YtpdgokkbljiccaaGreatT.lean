import Derived.RangeFuncBox
import Derived.RangeFuncLeaves
import Derived.RangeFuncCalls
import Derived.Shelf.Abstract
import Derived.Shelf.RegionOpen
import Derived.WalkKit
import Derived.OwnWalkIn
import Derived.TacticsInMore
import Derived.LoopNIn
import Derived.LoopIn
import Derived.Maps.AppendAt
import Derived.Test.YtpdgokkbljiccaaGreatProg
import Derived.Test.YtpdgokkbljiccaaGreatGT
import Derived.RangeFuncNested
import Derived.Test.YtpdgokkbljiccaaGreatA4
set_option linter.unusedVariables false
set_option linter.unusedSimpArgs false
open Array renaming getElem?_toList→aD
open Bool renaming and_eq_true→ah
open Int renaming toNat_natCast→aH
open Go.IntKind renaming i64→bx
open List renaming cons_append→cK,getElem?_drop→bA,getElem?_eq_getElem→ai,getElem?_take→ax,length_cons→ca,length_drop→cy,length_map→aci,length_nil→cH,length_take→aR,length→ac,map_append→acl,map_cons→bo,nil_append→ct,size_toArray→cu,take_of_length_le→bp
open Nat renaming add_assoc→cX,le_mul_of_pos_right→bM,le_refl→av,lt_of_lt_of_le→bi
open Go.Value renaming int→aX,oneCell'→dp
open Go.World renaming cell?_of_block→aL
set_option linter.unusedVariables false
namespace Go.Proofs
open Go.RowKit Go.Shelf Go.Am
attribute [local go_sem] Oper.semAt_some
namespace Tryz
theorem X3{α:Type}(f:Nat→α)(k:Nat):upto f (k+1)=upto f k++[f k]:=by simp[upto,List.range_succ]
theorem TX{α:Type}(f:Nat→α)(k:Nat):(upto f k).length=k:=by simp[upto]
def VX(b a:Nat)(W c:World):Prop:=c.heap[b]? =W.heap[b]? ∧c.heap[a]? =W.heap[a]?
theorem VX.refl(i a:Nat)(W:World):VX i a W W:=⟨rfl,rfl⟩
theorem VX.trans{i a:Nat}{A B C:World}(h:VX i a A B)(k:VX i a B C):VX i a A C:=⟨k.1.trans h.1,k.2.trans h.2⟩
theorem VY(w:World):w.grownBy w.drew none:=⟨rfl,rfl,rfl,av _,fun _ _ _=>rfl⟩
theorem DP{len sz k:Nat}(h:1≤sz):k<O8 len sz↔k*sz<len:=by
 unfold O8;rw[Nat.lt_div_iff_mul_lt (by omega)];omega
set_option maxRecDepth 100000 in
set_option maxHeartbeats 2000000 in
theorem X4 {α : Type} (F : Fence) (n : Nat) (h7 : F.fn 232) (U : F.round = none) (hn : 1 ≤ n) (l q g b off len cap sz : Nat) (hlc : len ≤ cap) (Z : len ≤ 1000000000) (t : 1 ≤ sz) (alJ : sz ≤ 1000000000000) (enc : α → Value) (f : Nat → α)
    (hf : ∀ j, j * sz < len → enc (f j) = .slice (some ⟨b, off + j * sz, none⟩) (min sz (len - j * sz)) (min sz (len - j * sz))) (J M : List α → World → Prop) (B : Nat) (hJ : AbidesFrom B J)
    (hY : ∀ a x W, J a W → a.length < O8 len sz → YieldAt F (n - 1) Tryz.prog l #[enc x] W fun e D =>
      (e = .returned (.bool true) ∧ J (a ++ [x]) D ∧ VX q g W D) ∨ (e = .returned (.bool false) ∧ M (a ++ [x]) D))
    (W : World) (Q : W.cell? ⟨q, 0, none⟩ = some (.slice (some ⟨b, off, none⟩) len cap)) (E : W.cell? ⟨g, 0, none⟩ = some (.int .i64 sz)) (h0 : J [] W) :
    CallsIn F n Tryz.prog 232 #[.func (.yield l) #[] #[], .pointer (some ⟨q, 0, none⟩), .pointer (some ⟨g, 0, none⟩)] W fun e D => (∃ v, e = .returned v) ∧
      ((∃ ys, ys = upto f (O8 len sz) ∧ J ys D) ∨ (∃ a, True ∧ M a D)) := by
  refine callsIn_of_wp Tryz.func232 rfl h7 ?_ U
  simp only [Tryz.ntmps232, cu, ca, cH, Nat.reduceAdd, Nat.reduceSub, Array.replicate_succ, Array.replicate_zero, List.push_toArray, List.append_toArray, ct, cK]
  gi_wp2
  gi_loopw [4] (fun i wr => ∃ k p : Nat, Hid (p = k * sz) ∧ k ≤ O8 len sz ∧ i = .int .i64 (p : Int) ∧ J (upto f k) wr ∧ VX q g W wr)
    (fun i _ => len + 1000000000000 - (intOf i).toNat)
  case atStart => exact ⟨0, 0, by simp [Hid], Nat.zero_le _, rfl, h0, VX.refl _ _ _⟩
  case round =>
    obtain ⟨k, p, K, hk, rfl, H, z⟩ := hrel
    have hc1 : wr.cell? ⟨q, 0, none⟩ = some (.slice (some ⟨b, off, none⟩) len cap) := (aL z.1).trans Q
    have hc2 : wr.cell? ⟨g, 0, none⟩ = some (.int .i64 sz) := (aL z.2).trans E
    have hmx : Tryz.prog.follows .mixedOrders = true := by kernel_rfl
    by_cases y : p < len
    · have o : k < O8 len sz := (DP t).2 (K.out ▸ y)
      have R : J (upto f k) wr.drew := hJ _ _ _ none H (VY wr) (fun r h => by cases h)
      have I : VX q g W wr.drew := z.trans ⟨rfl, rfl⟩
      obtain ⟨fn, tmps, N, X, V, O⟩ := hY _ (f k) wr.drew R (by rw [TX]; exact o)
      rw [hf k (K.out ▸ y), ← K.out] at V
      have go : ∀ e d, (e = Ending.returned (.bool true) ∧ J (upto f k ++ [f k]) d ∧ VX q g wr.drew d ∨ e = .returned (.bool false) ∧ M (upto f k ++ [f k]) d) →
          (e = .returned (.bool true) ∧ J (upto f (k + 1)) d ∧ VX q g W d ∧ d.cell? ⟨g, 0, none⟩ = some (.int .i64 sz)) ∨ (e = .returned (.bool false) ∧ ∃ a, M a d) := by
        rintro e d (⟨rfl, P, Y⟩ | ⟨rfl, P⟩)
        · exact .inl ⟨rfl, by rw [X3]; exact P, I.trans Y, (aL (I.trans Y).2).trans E⟩
        · exact .inr ⟨rfl, _, P⟩
      replace O := O.mono go
      clear go
      have L : Hid (p + sz = (k + 1) * sz) := by
        show p + sz = (k + 1) * sz
        rw [K.out, Nat.succ_mul]
      by_cases T : sz ≤ len - p
      · rw [Nat.min_eq_left T] at V
        gi_wp2
        gi_region_o
        all_goals gi_wp2
        all_goals (try go_bits)
        all_goals refine O.mono ?_
        all_goals rintro e d (⟨rfl, u, w, S⟩ | ⟨rfl, a, c⟩)
        all_goals gi_wp2
        all_goals first
          | (go_roundw
             case rel => exact ⟨k + 1, p + sz, L, o, by simp, u, w⟩
             case measure => simp [intOf]; omega)
          | (refine bodyPost_ret (results_none rfl _ _ _) rfl ?_
             exact ⟨⟨_, rfl⟩, .inr ⟨_, trivial, c⟩⟩)
      · have ahY : len - p < sz := by omega
        rw [Nat.min_eq_right (by omega)] at V
        gi_wp2
        gi_region_o
        all_goals gi_wp2
        all_goals (try go_bits)
        all_goals refine O.mono ?_
        all_goals rintro e d (⟨rfl, u, w, S⟩ | ⟨rfl, a, c⟩)
        all_goals gi_wp2
        all_goals first
          | (go_roundw
             case rel => exact ⟨k + 1, p + sz, L, o, by simp, u, w⟩
             case measure => simp [intOf]; omega)
          | (refine bodyPost_ret (results_none rfl _ _ _) rfl ?_
             exact ⟨⟨_, rfl⟩, .inr ⟨_, trivial, c⟩⟩)
    · have o : ¬ k < O8 len sz := fun h => y (K.out ▸ (DP t).1 h)
      obtain rfl : k = O8 len sz := by omega
      gi_wp2
      go_end0
      exact ⟨⟨_, rfl⟩, .inl ⟨_, rfl, H⟩⟩
set_option maxRecDepth 100000 in
set_option maxHeartbeats 2000000 in
theorem X5{α:Type}(F:Fence)(n:Nat)(o:F.fn 232)(g:F.round=none)(l b h:Nat)(a:Option Addr)(cap:Nat)(sz:Nat)(J:List α→World→Prop)
  (W:World) (c:W.cell? ⟨b,0,none⟩=some (.slice a 0 cap)) (p:W.cell? ⟨h,0,none⟩=some (.int .i64 sz)) (k:J [] W):
  CallsIn F n Tryz.prog 232 #[.func (.yield l) #[] #[],.pointer (some ⟨b,0,none⟩),.pointer (some ⟨h,0,none⟩)] W fun e j=>(∃v,e= .returned v)∧J [] j:=by
 refine callsIn_of_wp Tryz.func232 rfl o ?_ g;simp only[Tryz.ntmps232,cu,ca,cH,Nat.reduceAdd,Nat.reduceSub,Array.replicate_succ,Array.replicate_zero,List.push_toArray,List.append_toArray,ct,cK]
 gi_wp2
 gi_loopw [4] (fun i wr=>i= .int .i64 0∧J [] wr∧wr.cell? ⟨b,0,none⟩=some (.slice a 0 cap)) (fun _ _=>0)
 case atStart=>exact⟨rfl,k,c⟩
 case round=>
  obtain⟨rfl,d,q⟩:=hrel
  gi_wp2
  go_end0
  exact⟨⟨_,rfl⟩,d⟩
theorem Z3(sz:Nat)(h:1≤sz):O8 0 sz=0:=Nat.div_eq_of_lt (by omega)
theorem Js{α:Type}(F:Fence)(n:Nat)(E:F.fn 232)(o:F.round=none)(O:1≤n)(i h:Nat)(a:Option Addr)(len cap sz:Nat)(B:len≤cap)(k:len≤1000000000)(g:1≤sz)(q:sz≤1000000000000)(enc:α→Value)(f:Nat→α)
  (z:len=0∨∃b off,a=some ⟨b,off,none⟩∧∀j,j*sz<len→enc (f j)= .slice (some ⟨b,off+j*sz,none⟩) (min sz (len -j*sz)) (min sz (len -j*sz)))
  (w:World) (t:i<w.heap.size) (r:h<w.heap.size) (y:w.cell? ⟨i,0,none⟩=some (.slice a len cap)) (u:w.cell? ⟨h,0,none⟩=some (.int .i64 sz)):
  SeqStopsK F n Tryz.prog 232 #[.pointer (some ⟨i,0,none⟩),.pointer (some ⟨h,0,none⟩)] (fun x:α=> #[enc x]) (VX i h) (fun P=>P=upto f (O8 len sz)) (fun _=>True) (O8 len sz) w:=fun l J I W H K _ L D=>by
 have d:=(H.cell (p:=⟨i,0,none⟩) t).trans y;have c:=(H.cell (p:=⟨h,0,none⟩) r).trans u;rcases z with rfl |⟨b,off,rfl,z⟩
 ·refine(X5 F n E o l i h a cap sz J W d c D).mono fun e Q ⟨M,N⟩=>⟨M,.inl ⟨_,rfl,?_⟩⟩;rw[Z3 sz g];exact N
 ·exact X4 F n E o O l i h b off len cap sz B k g q enc f z J I _ K L W d c D
set_option maxRecDepth 100000 in
set_option maxHeartbeats 1000000 in
theorem TY(F:Fence)(n:Nat)(g:F.fn 207)(b:F.round=none)(a:Option Addr)(len cap sz:Nat)(c:1≤sz)(d:sz≤1000000000000)(w:World):
  CallsIn F n Tryz.prog 207 #[.slice a len cap,.int .i64 sz] w fun e w'=>e= .returned (.func (.func 232) #[] #[.pointer (some ⟨w.heap.size,0,none⟩),.pointer (some ⟨w.heap.size+1,0,none⟩)])∧w'=(w.alloc (.cells #[.slice a len cap] 22)).alloc (.cells #[.int .i64 sz] 3):=by
 refine callsIn_of_wp Tryz.func207 rfl g ?_ b;simp only[Tryz.ntmps207,cu,ca,cH,Nat.reduceAdd,Nat.reduceSub,Array.replicate_succ,Array.replicate_zero,List.push_toArray,List.append_toArray,ct,cK]
 gi_wp2
 go_ret
 exact⟨by simp,rfl⟩
end Tryz
end Go.Proofs
namespace Go.Proofs
open Go.RowKit Go.Shelf Go.Am
attribute [local go_sem] Oper.semAt_some
namespace Tryz
theorem acz:(Tryz.prog.info? 2).map (fun i=>(i.zero,i.size,i.bytes))=some (some (.int .i64 0),1,8):=by kernel_rfl
theorem rq{W a:World}(h:W.Extends a){B:Nat}{t:TypeId}{v:Value}(b:Boxed W B t v):Boxed a B t v:=(h.block B b.lt).trans b
theorem Nb{w:World}{Z Zp:bj}{k:IntKind}{x:Int}{v:Value}(h:qf w Z Zp (.int k) x v):v= .int k x:=by
 have:PR w Z Zp (.int k) x [v]:=h;simp only[PR]at this;injection this
theorem rr{R:Type}{c:Bool}{x y:Option R}{r:R}(h:aw c x y=some r):(c=true∧x=some r)∨(c=false∧y=some r):=by
 cases c with
 |true=>exact .inl ⟨rfl,h⟩
 |false=>exact .inr ⟨rfl,h⟩
theorem RH{j:List Int×Int→Option Int}{Fd:List Int×List Int→Option Int}{g b:List Int}{dI:Int}{r:List Int×Int}(h:DN j Fd (g,dI,b)=some r):
  ∃e0,j (g,dI)=some e0∧((e0≠0∧r=([],e0))∨(e0=0∧((b.length:Nat):Int)≠dI∧r=([],80))∨
   (e0=0∧((b.length:Nat):Int)=dI∧1≤b.length∧b.length≤1000000000000∧g.length≤1000000000∧∃a,nZ (fun row=>Fd (row,b)) (chunks b.length g)=some a∧r=(a,0))):=by
 unfold DN at h;obtain⟨e0,i,h⟩:=Option.bind_eq_some_iff.1 h;refine⟨e0,i,?_⟩;rcases rr h with⟨c,h⟩|⟨c,h⟩
 ·cases h;exact .inl ⟨by simpa using c,rfl⟩
 ·have c:e0=0:=by simpa using c
  rcases rr h with⟨d,h⟩|⟨d,h⟩
  ·cases h;exact .inr (.inl ⟨c,by simpa using d,rfl⟩)
  ·have d:((b.length:Nat):Int)=dI:=by simpa using d
   rcases rr h with⟨k,h⟩|⟨k,h⟩
   ·simp only[ah,decide_eq_true_eq]at k;obtain⟨a,l,h⟩:=Option.bind_eq_some_iff.1 h
    cases h;subst d;rw[aH]at l;exact .inr (.inr ⟨c,rfl,by omega,by omega,by omega,a,l,rfl⟩)
   ·cases h
theorem Jt{w0 w w':World}(c:w0.Extends w)(h:w'.os=w.os)(j:w'.tape=w.tape)(k:w'.output=w.output)(l:w.heap.size≤w'.heap.size)(n:∀i:Nat,i<w0.heap.size→w'.heap[i]? =w.heap[i]?):w0.Extends w':=by
 have b:∀i:Nat,i<w0.heap.size→w'.heap[i]? =w0.heap[i]? :=fun i g=>(n i g).trans (c.block i g)
 exact⟨h.trans c.os,j.trans c.tape,k.trans c.output,Nat.le_trans c.size l,fun a d=>aL (b a.block d),fun a d=>World.frozen?_of_block (b a.block d),b⟩
def xb(a:Option Addr)(n k j:Nat):Value:=
 match a with
 |some ⟨b,c,none⟩=> .slice (some ⟨b,c+j*k,none⟩) (min k (n -j*k)) (min k (n -j*k))
 |_=> .slice none 0 0
theorem RI{w:World}{Z Zp:bj}:PR w Z Zp (.sl (.int .i64)) ([]:List Int) [.slice none 0 0]:=⟨none,0,[],rfl,av _,rfl,fun h=>absurd rfl h⟩
theorem qO{w:World}{Z Zp:bj}{k:IntKind}:∀(l:List Int) (b:List Value),bY (PR w Z Zp (.int k)) l b↔b=l.map (aX k)
 |[],b=>Iff.rfl
 |x::l,b=>by
  simp only[bY,bo];constructor
  ·rintro⟨d,a,rfl,c,g⟩;have c:d=[.int k x]:=c;rw[c,(qO l a).1 g];rfl
  ·rintro rfl;exact⟨[.int k x],_,rfl,rfl,(qO l _).2 rfl⟩
theorem TZ{w:World}{Z Zp:bj}{k:IntKind}{a0:Option Addr}{t:Nat}{g:List Int}(r:t=g.length){p:List Value}(o:bY (PR w Z Zp (.int k)) g p)(n:At w Z a0 p)(sz j:Nat):
  PR w Z Zp (.sl (.int k)) ((g.drop (j*sz)).take sz) [xb a0 t sz j]:=by
 have D:=(qO g p).1 o;subst D
 cases g with
 |nil=>
  subst r;have:∀a0,∃a,xb a0 (ac ([]:List Int)) sz j= .slice a 0 0:=by
   intro a0;unfold xb
   split
   ·exact⟨some ⟨_,_,none⟩,by simp;exact⟨rfl,rfl⟩⟩
   ·exact⟨_,rfl⟩
  obtain⟨a,this⟩:=this a0;rw[this];have E:(([]:List Int).drop (j*sz)).take sz=[]:=by simp
  refine cast (congrArg (fun l:List Int=>PR w Z Zp (.sl (.int k)) l [.slice a 0 0]) E.symm) ?_;exact⟨a,0,[],rfl,av _,rfl,fun h=>absurd rfl h⟩
 |cons y l=>
  obtain⟨b,d,rfl,z⟩:=n (by simp);subst r;have q:ac (((y::l).drop (j*sz)).take sz)=min sz ((y::l).length -j*sz):=by simp
  refine⟨some ⟨b,d+j*sz,none⟩,min sz ((y::l).length -j*sz),((((y::l).drop (j*sz)).take sz).map (aX k)),?_,?_,(qO _ _).2 rfl,fun _=>⟨b,d+j*sz,rfl,fun i u c=> ?_⟩⟩
  ·show _=[Value.slice _ (ac (((y::l).drop (j*sz)).take sz)) _];rw[q];rfl
  ·exact Nat.le_of_eq q
  ·rw[List.getElem?_map]at c;have x:(((y::l).drop (j*sz)).take sz)[i]? =if i<sz then(y::l)[j*sz+i]? else none:=by
    rw[ax]
    split
    ·rw[bA]
    ·rfl
   rw[x]at c
   split at c
   ·rename_i B;have:=z (j*sz+i) u (by rw[List.getElem?_map];exact c);rw[cX];exact this
   ·cases c
theorem Z4{W d:World}(h:W.Extends d){base e size:Nat}{v:Value}{n:Nat}{k:List Value}(j:W.ownsRow base e size v n k):d.ownsRow base e size v n k:=by
 refine⟨j.1,?_⟩;rcases j.2 with c |⟨g,a,b,c,l,i,o⟩
 ·exact .inl c
 ·exact .inr ⟨g,a,b,c,l,(h.block g (Array.getElem?_eq_some_iff.1 i).1).trans i,o⟩
theorem Xf{w w':World}{Z:bj}{base e:Nat}{v:Value}{l:List Int}(t:w.heap.size≤base)(p:w'.ownsRow base e 1 v l.length (l.map (aX .i64))):PR w' (w7 Z w w') aI (.sl (.int .i64)) l [v]:=by
 rcases p.2 with⟨d,h⟩|⟨g,b,c,d,h,i,k,q,r,n⟩
 ·rw[d];have:l=[]:=List.length_eq_zero_iff.1 h;subst this;exact RI
 ·rw[d];have o:=(Array.getElem?_eq_some_iff.1 i).1;refine⟨_,b,l.map (aX .i64),rfl,k,(qO _ _).2 rfl,fun _=>⟨g,0,rfl,fun j u a=>⟨?_,.inr ⟨by omega,o⟩⟩⟩⟩;rw[←n,ax]at a
  split at a
  ·have:c[j]? =some u:=by rw[←aD];exact a
   simp[World.cell?,i,this]
  ·cases a
theorem Z5{w w':World}{Z:bj}{l:List Int}{n:Int}{a:Value}(h:w.Extends w')(k:PR w' (w7 Z w w') aI (.sl (.int .i64)) l [a]){e:Ending}(b:e= .returned (.tuple #[a,.int .i64 n])):
 ∃v,e= .returned v∧w.Extends w'∧zl w' (w7 Z w w') aI [.sl (.int .i64),.int .i64] (l,n) v:=⟨_,b,h,_,rfl,_,_,rfl,k,_,rfl,rfl⟩
set_option maxRecDepth 100000 in
set_option maxHeartbeats 2000000 in
theorem T0{Fm:List Int×Int→Option Int}{Fd:List Int×List Int→Option Int}(hm:ar Tryz.prog 206 ⟨[.sl (.int .i8),.int .i64],[.int .i64],Fm⟩)(hd:ar Tryz.prog 208 ⟨[.sl (.int .i8),.sl (.int .i8)],[.int .i64],Fd⟩)
  (w:World) (Z Zp:bj) (Y:List Int) (dI:Int) (ys:List Int) (r:List Int×Int) (v0 v2:Value) (hz:∀b i,Z b i→b<w.heap.size) (hzp:∀b i,Zp b i→b<w.heap.size)
  (h0:PR w Z Zp (.sl (.int .i8)) Y [v0]) (h2:PR w Z Zp (.sl (.int .i8)) ys [v2]) (e:DN Fm Fd (Y,dI,ys)=some r):
  Calls Tryz.prog 163 #[v0,.int .i64 dI,v2] w fun e w'=>∃v,e= .returned v∧w.Extends w'∧zl w' (w7 Z w w') aI [.sl (.int .i64),.int .i64] r v:=by
 obtain⟨e0,he0,e⟩:=RH e;have H:w.Extends (w.alloc (.cells #[v2] 22)):=(World.Extends.refl w).alloc _;have kz:bQ w (w.alloc (.cells #[v2] 22)) Z Z:=fun b i E=>⟨E,H.cell _ (hz b i E)⟩;have kzp:bQ w (w.alloc (.cells #[v2] 22)) Zp Zp:=fun b i E=>⟨E,H.cell _ (hzp b i E)⟩;have hcm:=hm.calls (w.alloc (.cells #[v2] 22)) Z Zp (Y,dI) e0 [v0,.int .i64 dI] (fun b i E=>by have:=hz b i E;simp;omega) (fun b i E=>by have:=hzp b i E;simp;omega) ⟨v0,_,rfl,PR.mono kz kzp _ _ _ h0,_,rfl,rfl⟩ he0;replace hcm:Calls Tryz.prog 206 #[v0,.int .i64 dI] (w.alloc (.cells #[v2] 22)) fun e w'=>e= .returned (.int .i64 e0)∧(w.alloc (.cells #[v2] 22)).Extends w':=
  hcm.mono fun e w' ⟨v,he,g,hres⟩=>⟨by rw[he,Nb (show qf w' (w7 Z (w.alloc (.cells #[v2] 22)) w') aI (.int .i64) e0 v from hres)],g⟩
 have h0':=h0;have h2':=h2;obtain⟨a0,B,us0,q1,hlc,XK,hat⟩:=h0';obtain⟨a2,u,us2,q2,_,_,_⟩:=h2';obtain⟨I,Q⟩:∃n,Hid (n=ac Y):=⟨_,rfl⟩;obtain⟨d,hn2⟩:∃n,Hid (n=ac ys):=⟨_,rfl⟩;have e1:v0= .slice a0 I B:=by rw[Q.out];injection q1
 have e2:v2= .slice a2 d u:=by rw[hn2.out];injection q2
 clear q1 q2;subst e1;subst e2;refine(callsIn_wide (n:=5)).1 ?_;refine callsIn_of_wp_marks Tryz.func163 rfl trivial ?_ rfl;simp only[Tryz.ntmps163,cu,ca,cH,Nat.reduceAdd,Nat.reduceSub,Array.replicate_succ,Array.replicate_zero,List.push_toArray,List.append_toArray,ct,cK];rcases e with⟨h00,rfl⟩|⟨rfl,T,rfl⟩|⟨rfl,T,N,hg2,hg3,ah2,acA,rfl⟩
 ·gi_wp2_with (refine⟨trivial,?_⟩;gi_at_call 206;refine(callsIn_wide.2 hcm).mono ?_;rintro e z ⟨rfl,g⟩;have M:=rq g (Boxed.new w 22 (.slice a2 d u));have hcX:=M.cell)
  exact⟨_,results_tmp2 rfl _ _ _,Z5 (H.trans g) RI rfl⟩
 ·rw[←hn2.out]at T
  gi_wp2_with (refine⟨trivial,?_⟩;gi_at_call 206;refine(callsIn_wide.2 hcm).mono ?_;rintro e z ⟨rfl,g⟩;have M:=rq g (Boxed.new w 22 (.slice a2 d u));have hcX:=M.cell)
  exact⟨_,results_tmp2 rfl _ _ _,Z5 (H.trans g) RI rfl⟩
 ·rw[←hn2.out]at T N hg2;rw[←Q.out]at hg3;subst T
  gi_wp2_with (first
     |(refine⟨trivial,?_⟩;gi_at_call 206;refine(callsIn_wide.2 hcm).mono ?_;rintro e z ⟨rfl,g⟩;have M:=rq g (Boxed.new w 22 (.slice a2 d u));have hcX:=M.cell)
     |(refine⟨trivial,?_⟩;gi_at_call 207;refine(Tryz.TY _ _ trivial rfl _ _ _ _ (by omega) (by omega) _).mono ?_;rintro e w' ⟨rfl,rfl⟩))
  have hK0:∀j,PR w Z Zp (.sl (.int .i8)) ((Y.drop (j*d)).take d) [xb a0 I d j]:=fun j=>TZ Q.out XK hat d j;have hpos:0<I→∀j,j<O8 I d→∃y,Fd ((Y.drop (j*d)).take d,ys)=some y:=fun _ j X=>by
   refine TT _ _ _ acA _ ?_;rw[←hn2.out];simp only[chunks,upto,List.mem_map,List.mem_range];exact⟨j,by rw[←Q.out];exact X,rfl⟩
  let α:={ p:Value×List Int // PR w Z Zp (.sl (.int .i8)) p.2 [p.1]∧(0<I→∃y,Fd (p.2,ys)=some y) }
  have hz0:∀j,j<O8 I d∨j=0→PR w Z Zp (.sl (.int .i8)) ((Y.drop (j*d)).take d) [xb a0 I d j]∧(0<I→∃y,Fd ((Y.drop (j*d)).take d,ys)=some y):=fun j X=>⟨hK0 j,fun h=>hpos h j (by
   rcases X with X |X
   ·exact X
   ·rw[X];exact(DP N).2 (by omega))⟩
  let fj:Nat→α:=fun j=>if h:j<O8 I d then⟨(xb a0 I d j,(Y.drop (j*d)).take d),hz0 j (.inl h)⟩else⟨(xb a0 I d 0,(Y.drop (0*d)).take d),hz0 0 (.inr rfl)⟩
  let t:List α→List Int:=fun a=>(nZ (fun S=>Fd (S,ys)) (a.map fun x=>x.1.2)).getD []
  obtain⟨w4,R⟩:∃w4,((z.alloc (.cells #[.slice none 0 0] 47)).alloc (.cells #[.slice a0 I B] 22)).alloc (.cells #[.int .i64 (d:Int)] 3)=w4:=⟨_,rfl⟩;have bO:Boxed w4 z.heap.size 47 (.slice none 0 0):=by rw[←R];exact((Boxed.new z _ _).alloc _).alloc _
  have bS:Boxed w4 (z.heap.size+1) 22 (.slice a0 I B):=by rw[←R];have:=(Boxed.new (z.alloc (.cells #[.slice none 0 0] 47)) 22 (.slice a0 I B)).alloc (.cells #[.int .i64 (d:Int)] 3);rwa[World.size_alloc]at this
  have bN:Boxed w4 (z.heap.size+1+1) 3 (.int .i64 (d:Int)):=by rw[←R];have:=Boxed.new ((z.alloc (.cells #[.slice none 0 0] 47)).alloc (.cells #[.slice a0 I B] 22)) 3 (.int .i64 (d:Int));rwa[World.size_alloc,World.size_alloc]at this
  have bX:Boxed w4 w.heap.size 22 (.slice a2 d u):=by rw[←R];exact((M.alloc _).alloc _).alloc _
  have hsz:w4.heap.size=z.heap.size+3:=by rw[←R];simp
  have hB4:Below z.heap.size z w4:=by rw[←R];exact(((Below.refl _ z).alloc (av _) _).alloc (by simp) _).alloc (by simp;omega) _
  have afN:w.heap.size<z.heap.size:=by have:=g.size;simp at this;omega
  rw[R];have hstops:=Tryz.Js (α:=α) Fence.wide 4 trivial rfl (by omega) (z.heap.size+1) (z.heap.size+1+1) a0 I B d (by rw[Q.out];exact hlc) hg3 N hg2 (fun x=>x.1.1) fj (by
   by_cases hn:I=0
   ·exact .inl hn
   ·right;have hne:us0≠[]:=by
     intro h;rw[h]at XK;have:=(qO Y []).1 XK;have hx:Y=[]:=by simpa using this.symm
     have:=Q.out;rw[hx]at this;exact hn this
    obtain⟨b,off,rfl,_⟩:=hat hne;refine⟨b,off,rfl,fun j X=> ?_⟩;have hj':j<O8 I d:=(DP N).2 X;simp only[fj];rw[dif_pos hj'];rfl) w4 (by omega) (by omega) bS.cell bN.cell
  refine wpIn_rangeFunc_ownG (F:=Fence.wide) rfl (by omega) (gf:=232) (lb:= #[.pointer (some ⟨z.heap.size+1,0,none⟩),.pointer (some ⟨z.heap.size+1+1,0,none⟩)]) rfl trivial (enters_of Tryz.func232 (by kernel_rfl) rfl)
   hstops VX.trans (fun W l o o' hl hlo hoc _=>⟨World.putObj_heap_other (by omega),World.putObj_heap_other (by omega)⟩) (Below.refl _ _) (fun _=>rfl)
   (fun a W=>(∃v,Boxed W z.heap.size 47 v∧W.ownsRow z.heap.size 2 1 v (t a).length ((t a).map (aX .i64))∧∃o,nZ (fun S=>Fd (S,ys)) (a.map fun x=>x.1.2)=some o)∧Below z.heap.size z W∧Boxed W (z.heap.size+1) 22 (.slice a0 I B)∧Boxed W (z.heap.size+1+1) 3 (.int .i64 (d:Int)))
   (fun _ _ _=>False)
   (OwnFrom.and (Own.from (holdsRow_own z.heap.size z.heap.size 47 2 1 (fun a=>(t a).length) (fun a=>(t a).map (aX .i64)) (fun a v=>∃o,nZ (fun S=>Fd (S,ys)) (a.map fun x=>x.1.2)=some o)) _) (OwnFrom.and (ownFrom_below (av _) (by omega)) (OwnFrom.and (Own.from (boxed_own (β:=List α) _ _ (fun _=>_)) _) (Own.from (boxed_own (β:=List α) _ _ (fun _=>_)) _))))
   (fun _ _ _ _ _ hs _ _=>hs)
   ⟨⟨_,bO,World.ownsRow_nil _ _ _ _,[],rfl⟩,hB4,bS,bN⟩
   (fun x=>{ tmps:= #[Value.slice a0 I B,aX bx d,Value.slice a2 d u,undef,undef,
     Value.pointer (some { block:=w.heap.size,off:=0 }),Value.slice none 0 0,aX bx 0,
     aX bx 0,Value.pointer (some { block:=z.heap.size,off:=0 }),x.1.1,
     Value.slice a0 I B,aX bx d,aX bx 0,aX bx 0,
     Value.bool false,undef,Value.slice a2 d u,aX bx d,aX bx d,
     Value.bool false,Value.slice a0 I B,aX bx d,
     Value.func (Fn.func 232) #[]
      #[Value.pointer (some { block:=z.heap.size+1,off:=0 }),
       Value.pointer (some { block:=z.heap.size+1+1,off:=0 })],
     x.1.1,undef,undef,undef,undef,undef,undef,undef],defers:=[] }) ?assign ?body ?done ?stop
  case assign=>
   intro l x W K hK
   gi_wp2
   exact hK
  case stop=>
   rintro D c a W _ _ h _;exact h.elim
  case body=>
   rintro l a x W ⟨⟨v,hv,U,o,ho⟩,V,bS',bN'⟩ hlt;have hpre:a.length<1000000000:=by
    have h1:=(DP N).1 hlt;have h2:a.length≤a.length*d:=bM _ N;omega
   have hol:(t a).length=a.length:=by
    simp only[t];rw[ho,Option.getD_some,TU _ _ _ ho,aci]
   have adb:0<I:=by have:=(DP N).1 hlt;omega
   obtain⟨y,hy⟩:=x.2.2 adb;have ah7:Boxed W w.heap.size 22 (.slice a2 d u):=(V.block _ afN).trans M;have alL:=ah7.cell;have hcO:=hv.cell;have afO:(w.alloc (.cells #[.slice a2 d u] 22)).Extends z:=g;have J:∀b i,b<w.heap.size→W.cell? ⟨b,i,none⟩=w.cell? ⟨b,i,none⟩:=fun b i E=>(aL (V.block b (by omega))).trans ((afO.cell _ (by simp;omega)).trans (H.cell _ E));have afP:w.heap.size≤W.heap.size:=by have:=V.size;omega
   have hdc:=hd.calls W.drew Z Zp (x.1.2,ys) y [x.1.1,.slice a2 d u] (fun b i E=>bi (hz b i E) afP) (fun b i E=>bi (hzp b i E) afP)
    ⟨_,_,rfl,PR.mono (fun b i E=>⟨E,J b i (hz b i E)⟩) (fun b i E=>⟨E,J b i (hzp b i E)⟩) _ _ _ x.2.1,_,rfl,PR.mono (fun b i E=>⟨E,J b i (hz b i E)⟩) (fun b i E=>⟨E,J b i (hzp b i E)⟩) _ _ _ h2⟩ hy
   replace hdc:Calls Tryz.prog 208 #[x.1.1,.slice a2 d u] W.drew fun e w'=>e= .returned (.int .i64 y)∧W.drew.Extends w':=
    hdc.mono fun e w' ⟨v,he,g,hres⟩=>⟨by rw[he,Nb (show qf w' (w7 Z W.drew w') aI (.int .i64) y v from hres)],g⟩
   have ho2:nZ (fun S=>Fd (S,ys)) ((a++[x]).map fun x=>x.1.2)=some (o++[y]):=by
    rw[acl];exact HG _ _ _ _ _ ho hy
   have hou:t (a++[x])=t a++[y]:=by
    simp only[t];rw[ho2,ho];rfl
   have hmx:Tryz.prog.follows .mixedOrders=true:=by kernel_rfl
   obtain⟨i0,hi,hz0,hz1,hz2⟩:=info_parts acz
   gi_wp2
   gi_region_with_o (refine⟨trivial,?_⟩;gi_at_call 208;refine(CallsIn.inRound l (callsIn_wide.2 hdc)).mono ?_;rintro e W5 ⟨rfl,q⟩;have hv5:=rq (W:=W.drew) q hv;have L:=Z4 (W:=W.drew) q U;have alO:=hv5.cell;have alP:=(hv5.alloc (.cells #[.int .i64 y] 2)).cell;have afQ:W.heap.size≤W5.heap.size:=q.size;obtain⟨v',w1,hrun,hown',O,_⟩:=run_append_own (P:=Tryz.prog) (w:=W5.alloc (.cells #[.int .i64 y] 2)) z.heap.size 47 47 2 i0 (.int .i64 0) 1 8 Tryz.underlying47 hi hz0 hz1 hz2 rfl (by decide) v _ _ (L.alloc _) ⟨W5.heap.size,0,none⟩ 1 1 [.int .i64 y] rfl (cell_one_new _ _ _) (by simp[dp]) (by rw[hol];unfold maxLen;omega) (by omega) (by have:=V.size;simp;omega);obtain⟨g',cap',rfl⟩:=ownsRow_succ hown';obtain⟨hv1,hv2,hr2,hk2,S0⟩:=hv5.appended (by decide) L (by have:=V.size;omega) (av _) hown' O;have hc1:=hv1.cell;have hf1:=hv1.frozen;simp[go_sem]at hrun)
   all_goals clear hrun
   all_goals rw[←hol]
   all_goals have hk5:KeepsOthers W W5:=⟨afQ,fun k o hk _=>(q.block k (Array.getElem?_eq_some_iff.1 hk).1).trans hk⟩
   all_goals have hb5:Below z.heap.size W W5:=⟨q.os,q.tape,q.output,afQ,fun k hk=>q.block k (by have:=V.size;show k<W.heap.size;omega)⟩
   all_goals have bS5:=rq (W:=W.drew) q bS'
   all_goals have bN5:=rq (W:=W.drew) q bN'
   all_goals have bS6:=((bS5.alloc _).kept O (bS5.not_row (by decide) L)).other (B':=z.heap.size) (by omega) (.slice (some ⟨g',0,none⟩) ((t a).length+1) cap')
   all_goals have bN6:=((bN5.alloc _).kept O (bN5.not_row (by decide) L)).other (B':=z.heap.size) (by omega) (.slice (some ⟨g',0,none⟩) ((t a).length+1) cap')
   all_goals exact⟨(hk5.trans hk2).from _,⟨bS6.trans bS'.symm,bN6.trans bN'.symm⟩,⟨_,hv2,by rw[hou];simpa using hr2,_,ho2⟩,V.trans (hb5.trans S0),bS6,bN6⟩
  case done=>
   rintro D a W hD rfl ⟨⟨v,hv,U,o,ho⟩,V,bS',bN'⟩ hK;have hc:=hv.cell
   gi_wp2
   refine⟨by simp,.inl ⟨_,_,rfl,run_takeDeferred hK,?_⟩⟩;refine⟨_,results_tmp2 rfl _ _ _,?_⟩;have hD0:z.heap.size≤D:=by omega
   have Ry:w.Extends (W.putObj D (.deferred none)):=by
    refine Jt (H.trans g) (V.os) (V.tape) (V.output) (by have:=V.size;simp;omega) fun i hi=> ?_;rw[World.putObj_heap_other (by omega)];exact V.block i (by omega)
   have hch:((upto fj (O8 I d)).map fun x=>x.1.2)=chunks ys.length Y:=by
    simp only[chunks,upto,List.map_map];rw[←hn2.out,←Q.out];refine List.map_congr_left fun j X=> ?_;have X:=List.mem_range.1 X;simp only[Function.comp,fj];rw[dif_pos X]
   have hout:t (upto fj (O8 I d))=ah2:=by
    simp only[t];rw[hch,acA];rfl
   rw[hout]at U;exact Z5 Ry (Xf (by omega) (ownsRow_putObj U _ hK rfl)) rfl
theorem RJ{c:List Int×Int→Option Int}{Fd:List Int×List Int→Option Int}(hm:ar Tryz.prog 206 ⟨[.sl (.int .i8),.int .i64],[.int .i64],c⟩)(k:ar Tryz.prog 208 ⟨[.sl (.int .i8),.sl (.int .i8)],[.int .i64],Fd⟩):
  ar Tryz.prog 163 ⟨[.sl (.int .i8),.int .i64,.sl (.int .i8)],[.sl (.int .i64),.int .i64],DN c Fd⟩:=by
 refine⟨⟨f163,func163,by kernel_rfl,by kernel_rfl⟩,rfl,fun w Z g x r d l b j e=> ?_⟩;obtain⟨v0,_,rfl,h,n,_,rfl,a,o,rfl,i⟩:=j;have a:n= .int .i64 x.2.1:=Nb a;subst a;exact T0 hm k w Z g x.1 x.2.1 x.2.2 r v0 o l b h i e
end Tryz
end Go.Proofs
namespace Go.Proofs
open Go.RowKit Go.Shelf Go.Am Go.IntWalk
attribute [local go_sem] Oper.semAt_some
namespace Tryz
theorem RK{g:List Int×Int→Option Int}{c:List Int}{dI:Int}{r:List Int×Int}(h:DO g (c,dI)=some r):
  ∃e0,g (c,dI)=some e0∧((e0≠0∧r=([],e0))∨(e0=0∧1≤dI∧dI≤1000000000000∧c.length≤1000000000∧r=((chunks dI.toNat c).map vM,0))):=by
 unfold DO at h;obtain⟨e0,d,h⟩:=Option.bind_eq_some_iff.1 h;refine⟨e0,d,?_⟩;rcases rr h with⟨a,h⟩|⟨a,h⟩
 ·cases h;exact .inl ⟨by simpa using a,rfl⟩
 ·have a:e0=0:=by simpa using a
  rcases rr h with⟨b,h⟩|⟨b,h⟩
  ·simp only[ah,decide_eq_true_eq]at b
   cases h;exact .inr ⟨a,b.1.1,b.1.2,b.2,rfl⟩
  ·cases h
theorem VZ(row:List Int)(j:Nat)(x:Int)(h:row[j]? =some x):vM (row.take (j+1))=Na (vM (row.take j)) x:=by
 unfold vM;rw[List.take_add_one,h,Option.toList_some,List.foldl_append];rfl
theorem afT{m j:Nat}(h:j<m):m -(intOf (.int .i64 ((j+1:Nat):Int))).toNat<m -(intOf (.int .i64 (j:Int))).toNat:=by simp[intOf];omega
set_option maxRecDepth 100000 in
set_option maxHeartbeats 4000000 in
theorem T6{Fm:List Int×Int→Option Int}(hm:ar Tryz.prog 206 ⟨[.sl (.int .i8),.int .i64],[.int .i64],Fm⟩)
  (w:World) (Z Zp:bj) (V:List Int) (dI:Int) (r:List Int×Int) (v0:Value) (hz:∀b i,Z b i→b<w.heap.size) (hzp:∀b i,Zp b i→b<w.heap.size)
  (h0:PR w Z Zp (.sl (.int .i8)) V [v0]) (e:DO Fm (V,dI)=some r):
  Calls Tryz.prog 221 #[v0,.int .i64 dI] w fun e w'=>∃v,e= .returned v∧w.Extends w'∧zl w' (w7 Z w w') aI [.sl (.int .i64),.int .i64] r v:=by
 obtain⟨e0,he0,e⟩:=RK e;have R:=hm.calls w Z Zp (V,dI) e0 [v0,.int .i64 dI] hz hzp ⟨v0,_,rfl,h0,_,rfl,rfl⟩ he0;replace R:Calls Tryz.prog 206 #[v0,.int .i64 dI] w fun e w'=>e= .returned (.int .i64 e0)∧w.Extends w':=
  R.mono fun e w' ⟨v,he,t,hres⟩=>⟨by rw[he,Nb (show qf w' (w7 Z w w') aI (.int .i64) e0 v from hres)],t⟩
 have h0':=h0;obtain⟨a0,g,us0,q1,hlc,XK,hat⟩:=h0';obtain⟨J,E⟩:∃n,Hid (n=ac V):=⟨_,rfl⟩;have e1:v0= .slice a0 J g:=by rw[E.out];injection q1
 clear q1;subst e1;refine(callsIn_wide (n:=5)).1 ?_;refine callsIn_of_wp_marks Tryz.func221 rfl trivial ?_ rfl;simp only[Tryz.ntmps221,cu,ca,cH,Nat.reduceAdd,Nat.reduceSub,Array.replicate_succ,Array.replicate_zero,List.push_toArray,List.append_toArray,ct,cK];rcases e with⟨h00,rfl⟩|⟨rfl,S,hg2,hg3,rfl⟩
 ·gi_wp2_with (refine⟨trivial,?_⟩;gi_at_call 206;refine(callsIn_wide.2 R).mono ?_;rintro e k ⟨rfl,t⟩)
  exact⟨_,results_tmp2 rfl _ _ _,Z5 t RI rfl⟩
 ·obtain⟨z,rfl⟩:∃z:Nat,dI=(z:Int):=⟨dI.toNat,by omega⟩;have S:1≤z:=by omega
  have hg2:z≤1000000000000:=by omega
  rw[←E.out]at hg3;rw[aH]
  gi_wp2_with (first
     |(refine⟨trivial,?_⟩;gi_at_call 206;refine(callsIn_wide.2 R).mono ?_;rintro e k ⟨rfl,t⟩)
     |(refine⟨trivial,?_⟩;gi_at_call 207;refine(Tryz.TY _ _ trivial rfl _ _ _ _ (by omega) (by omega) _).mono ?_;rintro e w' ⟨rfl,rfl⟩))
  have hK0:∀j,PR w Z Zp (.sl (.int .i8)) ((V.drop (j*z)).take z) [xb a0 J z j]:=fun j=>TZ E.out XK hat z j
  let α:={ p:Value×List Int // PR w Z Zp (.sl (.int .i8)) p.2 [p.1]∧p.2.length≤1000000000 }
  let fj:Nat→α:=fun j=>⟨(xb a0 J z j,(V.drop (j*z)).take z),hK0 j,by have:=E.out;simp only[aR,cy];omega⟩
  let d:List α→List Int:=fun a=>a.map fun x=>vM x.1.2
  obtain⟨w4,L⟩:∃w4,((k.alloc (.cells #[.slice none 0 0] 47)).alloc (.cells #[.slice a0 J g] 22)).alloc (.cells #[.int .i64 (z:Int)] 3)=w4:=⟨_,rfl⟩;have bO:Boxed w4 k.heap.size 47 (.slice none 0 0):=by rw[←L];exact((Boxed.new k _ _).alloc _).alloc _
  have bS:Boxed w4 (k.heap.size+1) 22 (.slice a0 J g):=by rw[←L];have:=(Boxed.new (k.alloc (.cells #[.slice none 0 0] 47)) 22 (.slice a0 J g)).alloc (.cells #[.int .i64 (z:Int)] 3);rwa[World.size_alloc]at this
  have bN:Boxed w4 (k.heap.size+1+1) 3 (.int .i64 (z:Int)):=by rw[←L];have:=Boxed.new ((k.alloc (.cells #[.slice none 0 0] 47)).alloc (.cells #[.slice a0 J g] 22)) 3 (.int .i64 (z:Int));rwa[World.size_alloc,World.size_alloc]at this
  have hsz:w4.heap.size=k.heap.size+3:=by rw[←L];simp
  have hB4:Below k.heap.size k w4:=by rw[←L];exact(((Below.refl _ k).alloc (av _) _).alloc (by simp) _).alloc (by simp;omega) _
  have afN:w.heap.size≤k.heap.size:=t.size;rw[L];have U:=Tryz.Js (α:=α) Fence.wide 4 trivial rfl (by omega) (k.heap.size+1) (k.heap.size+1+1) a0 J g z (by rw[E.out];exact hlc) hg3 S hg2 (fun x=>x.1.1) fj (by
   by_cases hn:J=0
   ·exact .inl hn
   ·right;have hne:us0≠[]:=by
     intro h;rw[h]at XK;have:=(qO V []).1 XK;have hx:V=[]:=by simpa using this.symm
     have:=E.out;rw[hx]at this;exact hn this
    obtain⟨b,off,rfl,_⟩:=hat hne;exact⟨b,off,rfl,fun j hj=>rfl⟩) w4 (by omega) (by omega) bS.cell bN.cell
  refine wpIn_rangeFunc_ownG (F:=Fence.wide) rfl (by omega) (gf:=232) (lb:= #[.pointer (some ⟨k.heap.size+1,0,none⟩),.pointer (some ⟨k.heap.size+1+1,0,none⟩)]) rfl trivial (enters_of Tryz.func232 (by kernel_rfl) rfl)
   U VX.trans (fun W l o o' hl hlo hoc _=>⟨World.putObj_heap_other (by omega),World.putObj_heap_other (by omega)⟩) (Below.refl _ _) (fun _=>rfl)
   (fun a W=>(∃v,Boxed W k.heap.size 47 v∧W.ownsRow k.heap.size 2 1 v (d a).length ((d a).map (aX .i64))∧True)∧Below k.heap.size k W∧Boxed W (k.heap.size+1) 22 (.slice a0 J g)∧Boxed W (k.heap.size+1+1) 3 (.int .i64 (z:Int)))
   (fun _ _ _=>False)
   (OwnFrom.and (Own.from (holdsRow_own k.heap.size k.heap.size 47 2 1 (fun a=>(d a).length) (fun a=>(d a).map (aX .i64)) (fun a v=>True)) _) (OwnFrom.and (ownFrom_below (av _) (by omega)) (OwnFrom.and (Own.from (boxed_own (β:=List α) _ _ (fun _=>_)) _) (Own.from (boxed_own (β:=List α) _ _ (fun _=>_)) _))))
   (fun _ _ _ _ _ hs _ _=>hs)
   ⟨⟨_,bO,World.ownsRow_nil _ _ _ _,trivial⟩,hB4,bS,bN⟩
   (fun x=>{ tmps:= #[Value.slice a0 J g,aX bx z,undef,undef,Value.slice none 0 0,aX bx 0,aX bx 0,
     Value.pointer (some { block:=k.heap.size,off:=0 }),x.1.1,undef,undef,undef,
     Value.slice a0 J g,aX bx z,aX bx 0,aX bx 0,
     Value.bool false,undef,Value.slice a0 J g,aX bx z,
     Value.func (Fn.func 232) #[]
      #[Value.pointer (some { block:=k.heap.size+1,off:=0 }),
       Value.pointer (some { block:=k.heap.size+1+1,off:=0 })],
     x.1.1,undef,undef,undef,undef,undef,undef,undef,undef,undef,undef,undef,undef,undef,undef,undef,undef,undef,undef,undef,undef],defers:=[] }) ?assign ?body ?done ?stop
  case assign=>
   intro l x W K hK
   gi_wp2
   exact hK
  case stop=>
   rintro D c a W _ _ h _;exact h.elim
  case body=>
   rintro l a x W ⟨⟨v,hv,u,-⟩,N,Q,O⟩ hlt;have hpre:a.length<1000000000:=by
    have h1:=(DP S).1 hlt;have h2:a.length≤a.length*z:=bM _ S;omega
   have hol:(d a).length=a.length:=by simp only[d];rw[aci]
   have hcO:=hv.cell;have hcell:∀b i,b<w.heap.size→W.cell? ⟨b,i,none⟩=w.cell? ⟨b,i,none⟩:=fun b i hb=>(aL (N.block b (by omega))).trans (t.cell _ hb);have T:∀x,d (a++[x])=d a++[vM x.1.2]:=fun x=>by simp only[d,acl,bo,List.map_nil]
   obtain⟨i0,hi,hz0,hz1,hz2⟩:=info_parts acz;obtain⟨⟨ab,ah9,usb,q2,hlb,I,aib⟩,hrl⟩:=x.2;obtain⟨q,hrw⟩:∃q,x.1.2=q:=⟨_,rfl⟩;rw[hrw]at q2 hlb I hrl;have T:=T x;rw[hrw]at T;obtain⟨m,M⟩:∃n,Hid (n=ac q):=⟨_,rfl⟩;have e2:x.1.1= .slice ab m ah9:=by rw[M.out];injection q2
   clear q2;rw[e2];have afU:=run_append_own (P:=Tryz.prog) (w:=W.alloc (.cells #[.int .i64 (vM q)] 2)) k.heap.size 47 47 2 i0 (.int .i64 0) 1 8 Tryz.underlying47 hi hz0 hz1 hz2 rfl (by decide) v _ _ (u.alloc _) ⟨W.heap.size,0,none⟩ 1 1 [.int .i64 (vM q)] rfl (cell_one_new _ _ _) (by simp[dp]) (by rw[hol];unfold maxLen;omega) (by omega) (by have:=N.size;simp;omega);obtain⟨v',w1,Y,H,B,_⟩:=afU;obtain⟨g',X,rfl⟩:=ownsRow_succ H;obtain⟨hv1,hv2,hr2,hk2,S0⟩:=hv.appended (by decide) u (by have:=N.size;omega) (av _) H B;have hc1:=hv1.cell;have hf1:=hv1.frozen;simp[go_sem]at Y
   gi_wp2
   gi_loop [9,24] (fun s i=>∃j:Nat,i= .int .i64 (j:Int)∧j≤m∧s= .int .i64 (vM (q.take j))) (fun s i=>m -(intOf i).toNat)
   case atStart=>exact⟨0,rfl,Nat.zero_le _,rfl⟩
   case round=>
    obtain⟨j,rfl,hj,rfl⟩:=hrel
    by_cases hjm:j<m
    ·have hne:usb≠[]:=by
      intro h;rw[h]at I;have:=(qO q []).1 I;have hx:q=[]:=by simpa using this.symm
      have:=M.out;rw[hx]at this;simp at this;omega
     obtain⟨b,off,rfl,hc⟩:=aib hne;obtain⟨y,hy⟩:∃y,q[j]? =some y:=⟨q[j]'(by have:=M.out;omega),ai _⟩
     have aid:usb[j]? =some (.int .i8 y):=by rw[(qO q usb).1 I,List.getElem?_map,hy];rfl
     have hcy:=(hc j _ aid);have hcW:=(hcell b (off+j) (hz _ _ hcy.2)).trans hcy.1;have hstep:=VZ q j y hy;clear Y H B hv1 hv2 hr2 hk2 S0 hc1 hf1
     gi_wp2
     have aie:wrap64 ((j:Int)+1)=((j+1:Nat):Int):=by
      have:=M.out;rw[wrap64_in _ (by omega)];omega
     rw[aie]
     go_round
     case rel=>
      refine⟨j+1,rfl,hjm,?_⟩;rw[hstep];simp only[Na,imax,Int.zero_sub,IntWalk.i64_left,gt_iff_lt]
     case measure=>exact afT hjm
    ·obtain rfl:j=m:=Nat.le_antisymm hj (Nat.le_of_not_lt hjm);have hrt:q.take j=q:=bp (Nat.le_of_eq M.out.symm);rw[hrt]
     gi_wp2
     rw[←hol];have bS6:=((Q.alloc _).kept B (Q.not_row (by decide) u)).other (B':=k.heap.size) (by omega) (.slice (some ⟨g',0,none⟩) ((d a).length+1) X);have bN6:=((O.alloc _).kept B (O.not_row (by decide) u)).other (B':=k.heap.size) (by omega) (.slice (some ⟨g',0,none⟩) ((d a).length+1) X);exact⟨hk2.from _,⟨bS6.trans Q.symm,bN6.trans O.symm⟩,⟨_,hv2,by rw[T];simpa using hr2⟩,N.trans S0,bS6,bN6⟩
  case done=>
   rintro D a W hD rfl ⟨⟨v,hv,u,-⟩,N,Q,O⟩ hK;have hc:=hv.cell
   gi_wp2
   refine⟨by simp,.inl ⟨_,_,rfl,run_takeDeferred hK,?_⟩⟩;refine⟨_,results_tmp2 rfl _ _ _,?_⟩;have Ry:w.Extends (W.putObj D (.deferred none)):=by
    refine Jt t (N.os) (N.tape) (N.output) (by have:=N.size;simp;omega) fun i hi=> ?_;rw[World.putObj_heap_other (by omega)];exact N.block i (by omega)
   have hout:d (upto fj (O8 J z))=(chunks z V).map vM:=by
    simp only[d,chunks,upto,List.map_map];rw[←E.out];rfl
   rw[hout]at u;exact Z5 Ry (Xf (by omega) (ownsRow_putObj u _ hK rfl)) rfl
theorem RL{c:List Int×Int→Option Int}(hm:ar Tryz.prog 206 ⟨[.sl (.int .i8),.int .i64],[.int .i64],c⟩):
  ar Tryz.prog 221 ⟨[.sl (.int .i8),.int .i64],[.sl (.int .i64),.int .i64],DO c⟩:=by
 refine⟨⟨f221,func221,by kernel_rfl,by kernel_rfl⟩,rfl,fun w Z g x r d j b i e=> ?_⟩;obtain⟨v0,_,rfl,h,k,rfl,a⟩:=i;have a:k= .int .i64 x.2:=Nb a;subst a;exact T6 hm w Z g x.1 x.2 r v0 j b h e
end Tryz
end Go.Proofs
