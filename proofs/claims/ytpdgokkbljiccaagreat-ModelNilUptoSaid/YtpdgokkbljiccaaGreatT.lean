import Derived.RangeFuncBox
import Derived.RangeFuncLeaves
import Derived.RangeFuncCalls
import Derived.Shelf.Abstract
import Derived.Shelf.RegionOpen
import Derived.WalkKit
import Derived.OwnWalkIn
import Derived.TacticsInMore
import Derived.LoopNIn
import Derived.LoopIn
import Derived.Maps.AppendAt
import Derived.Test.YtpdgokkbljiccaaGreatProg
import Derived.Test.YtpdgokkbljiccaaGreatGT
import Derived.RangeFuncNested
import Derived.Test.YtpdgokkbljiccaaGreatA4
set_option linter.unusedVariables false
set_option linter.unusedSimpArgs false
open Array renaming getElem?_toList→av
open Bool renaming and_eq_true→ae
open Go.IntKind renaming i64→ch
open List renaming cons_append→bU,getElem?_drop→aT,getElem?_eq_getElem→ah,getElem?_take→ao,length_drop→bV,length_take→aP,length→aa,map_cons→aQ,nil_append→bH,size_toArray→bD,take_of_length_le→bw
open Nat renaming add_assoc→ce,le_refl→aq,lt_of_lt_of_le→aK
open Go.Value renaming int→aG,oneCell'→cq
open Go.World renaming cell?_of_block→az
set_option linter.unusedVariables false
namespace Go.Proofs
open Go.RowKit Go.Shelf Go.Am
attribute [local go_sem] Oper.semAt_some
namespace Tryz
theorem EI{α:Type}(f:Nat→α)(k:Nat):upto f (k+1)=upto f k++[f k]:=by simp[upto,List.range_succ]
theorem BZ{α:Type}(f:Nat→α)(k:Nat):(upto f k).length=k:=by simp[upto]
def Dr(b a:Nat)(W c:World):Prop:=c.heap[b]? =W.heap[b]? ∧c.heap[a]? =W.heap[a]?
theorem Dr.refl(b a:Nat)(W:World):Dr b a W W:=⟨rfl,rfl⟩
theorem Dr.trans{b a:Nat}{A B C:World}(h:Dr b a A B)(k:Dr b a B C):Dr b a A C:=⟨k.1.trans h.1,k.2.trans h.2⟩
theorem Ds(w:World):w.grownBy w.drew none:=⟨rfl,rfl,rfl,aq _,fun _ _ _=>rfl⟩
theorem pM{len sz k:Nat}(h:1≤sz):k<zS len sz↔k*sz<len:=by
 unfold zS;rw[Nat.lt_div_iff_mul_lt (by omega)];omega
set_option maxRecDepth 100000 in
set_option maxHeartbeats 2000000 in
theorem EJ {α : Type} (F : Fence) (n : Nat) (h7 : F.fn 232) (U : F.round = none) (hn : 1 ≤ n) (l q g b off len cap sz : Nat) (hlc : len ≤ cap) (Z : len ≤ 1000000000) (t : 1 ≤ sz) (Rm : sz ≤ 1000000000000) (enc : α → Value) (f : Nat → α)
    (hf : ∀ j, j * sz < len → enc (f j) = .slice (some ⟨b, off + j * sz, none⟩) (min sz (len - j * sz)) (min sz (len - j * sz))) (J M : List α → World → Prop) (B : Nat) (hJ : AbidesFrom B J)
    (hY : ∀ a x W, J a W → a.length < zS len sz → YieldAt F (n - 1) Tryz.prog l #[enc x] W fun e D =>
      (e = .returned (.bool true) ∧ J (a ++ [x]) D ∧ Dr q g W D) ∨ (e = .returned (.bool false) ∧ M (a ++ [x]) D))
    (W : World) (Q : W.cell? ⟨q, 0, none⟩ = some (.slice (some ⟨b, off, none⟩) len cap)) (E : W.cell? ⟨g, 0, none⟩ = some (.int .i64 sz)) (h0 : J [] W) :
    CallsIn F n Tryz.prog 232 #[.func (.yield l) #[] #[], .pointer (some ⟨q, 0, none⟩), .pointer (some ⟨g, 0, none⟩)] W fun e D => (∃ v, e = .returned v) ∧
      ((∃ ys, ys = upto f (zS len sz) ∧ J ys D) ∨ (∃ a, True ∧ M a D)) := by
  refine callsIn_of_wp Tryz.func232 rfl h7 ?_ U
  simp only [Tryz.ntmps232, bD, List.length_cons, List.length_nil, Nat.reduceAdd, Nat.reduceSub, Array.replicate_succ, Array.replicate_zero, List.push_toArray, List.append_toArray, bH, bU]
  gi_wp2
  gi_loopw [4] (fun i wr => ∃ k p : Nat, Hid (p = k * sz) ∧ k ≤ zS len sz ∧ i = .int .i64 (p : Int) ∧ J (upto f k) wr ∧ Dr q g W wr)
    (fun i _ => len + 1000000000000 - (intOf i).toNat)
  case atStart => exact ⟨0, 0, by simp [Hid], Nat.zero_le _, rfl, h0, Dr.refl _ _ _⟩
  case round =>
    obtain ⟨k, p, K, hk, rfl, H, z⟩ := hrel
    have IX : wr.cell? ⟨q, 0, none⟩ = some (.slice (some ⟨b, off, none⟩) len cap) := (az z.1).trans Q
    have Ml : wr.cell? ⟨g, 0, none⟩ = some (.int .i64 sz) := (az z.2).trans E
    have Il : Tryz.prog.follows .mixedOrders = true := by kernel_rfl
    by_cases y : p < len
    · have o : k < zS len sz := (pM t).2 (K.out ▸ y)
      have R : J (upto f k) wr.drew := hJ _ _ _ none H (Ds wr) (fun r h => by cases h)
      have I : Dr q g W wr.drew := z.trans ⟨rfl, rfl⟩
      obtain ⟨fn, tmps, N, X, V, O⟩ := hY _ (f k) wr.drew R (by rw [BZ]; exact o)
      rw [hf k (K.out ▸ y), ← K.out] at V
      have go : ∀ e d, (e = Ending.returned (.bool true) ∧ J (upto f k ++ [f k]) d ∧ Dr q g wr.drew d ∨ e = .returned (.bool false) ∧ M (upto f k ++ [f k]) d) →
          (e = .returned (.bool true) ∧ J (upto f (k + 1)) d ∧ Dr q g W d ∧ d.cell? ⟨g, 0, none⟩ = some (.int .i64 sz)) ∨ (e = .returned (.bool false) ∧ ∃ a, M a d) := by
        rintro e d (⟨rfl, P, Y⟩ | ⟨rfl, P⟩)
        · exact .inl ⟨rfl, by rw [EI]; exact P, I.trans Y, (az (I.trans Y).2).trans E⟩
        · exact .inr ⟨rfl, _, P⟩
      replace O := O.mono go
      clear go
      have L : Hid (p + sz = (k + 1) * sz) := by
        show p + sz = (k + 1) * sz
        rw [K.out, Nat.succ_mul]
      by_cases T : sz ≤ len - p
      · rw [Nat.min_eq_left T] at V
        gi_wp2
        gi_region_o
        all_goals gi_wp2
        all_goals (try go_bits)
        all_goals refine O.mono ?_
        all_goals rintro e d (⟨rfl, u, w, S⟩ | ⟨rfl, a, c⟩)
        all_goals gi_wp2
        all_goals first
          | (go_roundw
             case rel => exact ⟨k + 1, p + sz, L, o, by simp, u, w⟩
             case measure => simp [intOf]; omega)
          | (refine bodyPost_ret (results_none rfl _ _ _) rfl ?_
             exact ⟨⟨_, rfl⟩, .inr ⟨_, trivial, c⟩⟩)
      · have NA : len - p < sz := by omega
        rw [Nat.min_eq_right (by omega)] at V
        gi_wp2
        gi_region_o
        all_goals gi_wp2
        all_goals (try go_bits)
        all_goals refine O.mono ?_
        all_goals rintro e d (⟨rfl, u, w, S⟩ | ⟨rfl, a, c⟩)
        all_goals gi_wp2
        all_goals first
          | (go_roundw
             case rel => exact ⟨k + 1, p + sz, L, o, by simp, u, w⟩
             case measure => simp [intOf]; omega)
          | (refine bodyPost_ret (results_none rfl _ _ _) rfl ?_
             exact ⟨⟨_, rfl⟩, .inr ⟨_, trivial, c⟩⟩)
    · have o : ¬ k < zS len sz := fun h => y (K.out ▸ (pM t).1 h)
      obtain rfl : k = zS len sz := by omega
      gi_wp2
      go_end0
      exact ⟨⟨_, rfl⟩, .inl ⟨_, rfl, H⟩⟩
set_option maxRecDepth 100000 in
set_option maxHeartbeats 2000000 in
theorem EK{α:Type}(F:Fence)(n:Nat)(o:F.fn 232)(g:F.round=none)(l b h:Nat)(a:Option Addr)(cap:Nat)(sz:Nat)(J:List α→World→Prop)
  (W:World) (c:W.cell? ⟨b,0,none⟩=some (.slice a 0 cap)) (p:W.cell? ⟨h,0,none⟩=some (.int .i64 sz)) (k:J [] W):
  CallsIn F n Tryz.prog 232 #[.func (.yield l) #[] #[],.pointer (some ⟨b,0,none⟩),.pointer (some ⟨h,0,none⟩)] W fun e j=>(∃v,e= .returned v)∧J [] j:=by
 refine callsIn_of_wp Tryz.func232 rfl o ?_ g;simp only[Tryz.ntmps232,bD,List.length_cons,List.length_nil,Nat.reduceAdd,Nat.reduceSub,Array.replicate_succ,Array.replicate_zero,List.push_toArray,List.append_toArray,bH,bU]
 gi_wp2
 gi_loopw [4] (fun i wr=>i= .int .i64 0∧J [] wr∧wr.cell? ⟨b,0,none⟩=some (.slice a 0 cap)) (fun _ _=>0)
 case atStart=>exact⟨rfl,k,c⟩
 case round=>
  obtain⟨rfl,d,q⟩:=hrel
  gi_wp2
  go_end0
  exact⟨⟨_,rfl⟩,d⟩
theorem Ge(sz:Nat)(h:1≤sz):zS 0 sz=0:=Nat.div_eq_of_lt (by omega)
theorem tg{α:Type}(F:Fence)(n:Nat)(E:F.fn 232)(o:F.round=none)(O:1≤n)(i h:Nat)(a:Option Addr)(len cap sz:Nat)(B:len≤cap)(k:len≤1000000000)(g:1≤sz)(q:sz≤1000000000000)(enc:α→Value)(f:Nat→α)
  (z:len=0∨∃b off,a=some ⟨b,off,none⟩∧∀j,j*sz<len→enc (f j)= .slice (some ⟨b,off+j*sz,none⟩) (min sz (len -j*sz)) (min sz (len -j*sz)))
  (w:World) (t:i<w.heap.size) (r:h<w.heap.size) (y:w.cell? ⟨i,0,none⟩=some (.slice a len cap)) (u:w.cell? ⟨h,0,none⟩=some (.int .i64 sz)):
  SeqStopsK F n Tryz.prog 232 #[.pointer (some ⟨i,0,none⟩),.pointer (some ⟨h,0,none⟩)] (fun x:α=> #[enc x]) (Dr i h) (fun P=>P=upto f (zS len sz)) (fun _=>True) (zS len sz) w:=fun l J I W H K _ L D=>by
 have d:=(H.cell (p:=⟨i,0,none⟩) t).trans y;have c:=(H.cell (p:=⟨h,0,none⟩) r).trans u;rcases z with rfl |⟨b,off,rfl,z⟩
 ·refine(EK F n E o l i h a cap sz J W d c D).mono fun e Q ⟨M,N⟩=>⟨M,.inl ⟨_,rfl,?_⟩⟩;rw[Ge sz g];exact N
 ·exact EJ F n E o O l i h b off len cap sz B k g q enc f z J I _ K L W d c D
set_option maxRecDepth 100000 in
set_option maxHeartbeats 1000000 in
theorem B0(F:Fence)(n:Nat)(g:F.fn 207)(b:F.round=none)(a:Option Addr)(len cap sz:Nat)(c:1≤sz)(d:sz≤1000000000000)(w:World):
  CallsIn F n Tryz.prog 207 #[.slice a len cap,.int .i64 sz] w fun e w'=>e= .returned (.func (.func 232) #[] #[.pointer (some ⟨w.heap.size,0,none⟩),.pointer (some ⟨w.heap.size+1,0,none⟩)])∧w'=(w.alloc (.cells #[.slice a len cap] 22)).alloc (.cells #[.int .i64 sz] 3):=by
 refine callsIn_of_wp Tryz.func207 rfl g ?_ b;simp only[Tryz.ntmps207,bD,List.length_cons,List.length_nil,Nat.reduceAdd,Nat.reduceSub,Array.replicate_succ,Array.replicate_zero,List.push_toArray,List.append_toArray,bH,bU]
 gi_wp2
 go_ret
 exact⟨by simp,rfl⟩
end Tryz
end Go.Proofs
namespace Go.Proofs
open Go.RowKit Go.Shelf Go.Am
attribute [local go_sem] Oper.semAt_some
namespace Tryz
theorem It:(Tryz.prog.info? 2).map (fun i=>(i.zero,i.size,i.bytes))=some (some (.int .i64 0),1,8):=by kernel_rfl
theorem i9{W a:World}(h:W.Extends a){B:Nat}{t:TypeId}{v:Value}(b:Boxed W B t v):Boxed a B t v:=(h.block B b.lt).trans b
theorem wh{w:World}{Z Zp:aL}{k:IntKind}{x:Int}{v:Value}(h:iM w Z Zp (.int k) x v):v= .int k x:=by
 have:PR w Z Zp (.int k) x [v]:=h;simp only[PR]at this;injection this
theorem ja{R:Type}{c:Bool}{x y:Option R}{r:R}(h:eN c x y=some r):(c=true∧x=some r)∨(c=false∧y=some r):=by
 cases c with
 |true=>exact .inl ⟨rfl,h⟩
 |false=>exact .inr ⟨rfl,h⟩
theorem zU{k:List Int×Int→Option Int}{Fd:List Int×List Int→Option Int}{i c:List Int}{a:Int}{r:List Int×Int}(h:we k Fd (i,a,c)=some r):
  ∃e0,k (i,a)=some e0∧((e0≠0∧r=([],e0))∨(e0=0∧((c.length:Nat):Int)≠a∧r=([],80))∨
   (e0=0∧((c.length:Nat):Int)=a∧1≤c.length∧c.length≤1000000000000∧i.length≤1000000000∧∃b,hI (fun row=>Fd (row,c)) (chunks c.length i)=some b∧r=(b,0))):=by
 unfold we at h;obtain⟨e0,j,h⟩:=Option.bind_eq_some_iff.1 h;refine⟨e0,j,?_⟩;rcases ja h with⟨d,h⟩|⟨d,h⟩
 ·cases h;exact .inl ⟨by simpa using d,rfl⟩
 ·have d:e0=0:=by simpa using d
  rcases ja h with⟨g,h⟩|⟨g,h⟩
  ·cases h;exact .inr (.inl ⟨d,by simpa using g,rfl⟩)
  ·have g:((c.length:Nat):Int)=a:=by simpa using g
   rcases ja h with⟨l,h⟩|⟨l,h⟩
   ·simp only[ae,decide_eq_true_eq]at l;obtain⟨b,n,h⟩:=Option.bind_eq_some_iff.1 h
    cases h;subst g;rw[Int.toNat_natCast]at n;exact .inr (.inr ⟨d,rfl,by omega,by omega,by omega,b,n,rfl⟩)
   ·cases h
theorem th{w0 w w':World}(c:w0.Extends w)(h:w'.os=w.os)(j:w'.tape=w.tape)(k:w'.output=w.output)(l:w.heap.size≤w'.heap.size)(n:∀i:Nat,i<w0.heap.size→w'.heap[i]? =w.heap[i]?):w0.Extends w':=by
 have b:∀i:Nat,i<w0.heap.size→w'.heap[i]? =w0.heap[i]? :=fun i g=>(n i g).trans (c.block i g)
 exact⟨h.trans c.os,j.trans c.tape,k.trans c.output,Nat.le_trans c.size l,fun a d=>az (b a.block d),fun a d=>World.frozen?_of_block (b a.block d),b⟩
def lq(a:Option Addr)(n k j:Nat):Value:=
 match a with
 |some ⟨b,c,none⟩=> .slice (some ⟨b,c+j*k,none⟩) (min k (n -j*k)) (min k (n -j*k))
 |_=> .slice none 0 0
theorem zV{w:World}{Z Zp:aL}:PR w Z Zp (.sl (.int .i64)) ([]:List Int) [.slice none 0 0]:=⟨none,0,[],rfl,aq _,rfl,fun h=>absurd rfl h⟩
theorem i2{w:World}{Z Zp:aL}{k:IntKind}:∀(l:List Int) (b:List Value),bm (PR w Z Zp (.int k)) l b↔b=l.map (aG k)
 |[],b=>Iff.rfl
 |x::l,b=>by
  simp only[bm,aQ];constructor
  ·rintro⟨d,a,rfl,c,g⟩;have c:d=[.int k x]:=c;rw[c,(i2 l a).1 g];rfl
  ·rintro rfl;exact⟨[.int k x],_,rfl,rfl,(i2 l _).2 rfl⟩
theorem B1{w:World}{Z Zp:aL}{k:IntKind}{c:Option Addr}{x:Nat}{n:List Int}(t:x=n.length){q:List Value}(p:bm (PR w Z Zp (.int k)) n q)(o:At w Z c q)(sz j:Nat):
  PR w Z Zp (.sl (.int k)) ((n.drop (j*sz)).take sz) [lq c x sz j]:=by
 have E:=(i2 n q).1 p;subst E
 cases n with
 |nil=>
  subst t;have:∀c,∃a,lq c (aa ([]:List Int)) sz j= .slice a 0 0:=by
   intro c;unfold lq
   split
   ·exact⟨some ⟨_,_,none⟩,by simp;exact⟨rfl,rfl⟩⟩
   ·exact⟨_,rfl⟩
  obtain⟨a,this⟩:=this c;rw[this];have F:(([]:List Int).drop (j*sz)).take sz=[]:=by simp
  refine cast (congrArg (fun l:List Int=>PR w Z Zp (.sl (.int k)) l [.slice a 0 0]) F.symm) ?_;exact⟨a,0,[],rfl,aq _,rfl,fun h=>absurd rfl h⟩
 |cons y l=>
  obtain⟨b,g,rfl,B⟩:=o (by simp);subst t;have r:aa (((y::l).drop (j*sz)).take sz)=min sz ((y::l).length -j*sz):=by simp
  refine⟨some ⟨b,g+j*sz,none⟩,min sz ((y::l).length -j*sz),((((y::l).drop (j*sz)).take sz).map (aG k)),?_,?_,(i2 _ _).2 rfl,fun _=>⟨b,g+j*sz,rfl,fun i u d=> ?_⟩⟩
  ·show _=[Value.slice _ (aa (((y::l).drop (j*sz)).take sz)) _];rw[r];rfl
  ·exact Nat.le_of_eq r
  ·rw[List.getElem?_map]at d;have z:(((y::l).drop (j*sz)).take sz)[i]? =if i<sz then(y::l)[j*sz+i]? else none:=by
    rw[ao]
    split
    ·rw[aT]
    ·rfl
   rw[z]at d
   split at d
   ·rename_i D;have:=B (j*sz+i) u (by rw[List.getElem?_map];exact d);rw[ce];exact this
   ·cases d
theorem Gf{W d:World}(h:W.Extends d){base e size:Nat}{v:Value}{n:Nat}{k:List Value}(j:W.ownsRow base e size v n k):d.ownsRow base e size v n k:=by
 refine⟨j.1,?_⟩;rcases j.2 with c |⟨g,a,b,c,l,i,o⟩
 ·exact .inl c
 ·exact .inr ⟨g,a,b,c,l,(h.block g (Array.getElem?_eq_some_iff.1 i).1).trans i,o⟩
theorem D3{w w':World}{Z:aL}{base e:Nat}{v:Value}{l:List Int}(t:w.heap.size≤base)(p:w'.ownsRow base e 1 v l.length (l.map (aG .i64))):PR w' (lm Z w w') ay (.sl (.int .i64)) l [v]:=by
 rcases p.2 with⟨d,h⟩|⟨g,b,c,d,h,i,k,q,r,n⟩
 ·rw[d];have:l=[]:=List.length_eq_zero_iff.1 h;subst this;exact zV
 ·rw[d];have o:=(Array.getElem?_eq_some_iff.1 i).1;refine⟨_,b,l.map (aG .i64),rfl,k,(i2 _ _).2 rfl,fun _=>⟨g,0,rfl,fun j u a=>⟨?_,.inr ⟨by omega,o⟩⟩⟩⟩;rw[←n,ao]at a
  split at a
  ·have:c[j]? =some u:=by rw[←av];exact a
   simp[World.cell?,i,this]
  ·cases a
theorem Gg{w w':World}{Z:aL}{l:List Int}{n:Int}{a:Value}(h:w.Extends w')(k:PR w' (lm Z w w') ay (.sl (.int .i64)) l [a]){e:Ending}(b:e= .returned (.tuple #[a,.int .i64 n])):
 ∃v,e= .returned v∧w.Extends w'∧mf w' (lm Z w w') ay [.sl (.int .i64),.int .i64] (l,n) v:=⟨_,b,h,_,rfl,_,_,rfl,k,_,rfl,rfl⟩
set_option maxRecDepth 100000 in
set_option maxHeartbeats 2000000 in
theorem B2{Fm:List Int×Int→Option Int}{Fd:List Int×List Int→Option Int}(hm:aw Tryz.prog 206 ⟨[.sl (.int .i8),.int .i64],[.int .i64],Fm⟩)(hd:aw Tryz.prog 208 ⟨[.sl (.int .i8),.sl (.int .i8)],[.int .i64],Fd⟩)
  (w:World) (Z Zp:aL) (xs:List Int) (M:Int) (ys:List Int) (r:List Int×Int) (v0 v2:Value) (hz:∀b i,Z b i→b<w.heap.size) (Hg:∀b i,Zp b i→b<w.heap.size)
  (h0:PR w Z Zp (.sl (.int .i8)) xs [v0]) (h2:PR w Z Zp (.sl (.int .i8)) ys [v2]) (e:we Fm Fd (xs,M,ys)=some r):
  Calls Tryz.prog 163 #[v0,.int .i64 M,v2] w fun e w'=>∃v,e= .returned v∧w.Extends w'∧mf w' (lm Z w w') ay [.sl (.int .i64),.int .i64] r v:=by
 obtain⟨e0,NB,e⟩:=zU e;have H:w.Extends (w.alloc (.cells #[v2] 22)):=(World.Extends.refl w).alloc _;have kz:bc w (w.alloc (.cells #[v2] 22)) Z Z:=fun b i E=>⟨E,H.cell _ (hz b i E)⟩;have Ro:bc w (w.alloc (.cells #[v2] 22)) Zp Zp:=fun b i E=>⟨E,H.cell _ (Hg b i E)⟩;have hcm:=hm.calls (w.alloc (.cells #[v2] 22)) Z Zp (xs,M) e0 [v0,.int .i64 M] (fun b i E=>by have:=hz b i E;simp;omega) (fun b i E=>by have:=Hg b i E;simp;omega) ⟨v0,_,rfl,PR.mono kz Ro _ _ _ h0,_,rfl,rfl⟩ NB;replace hcm:Calls Tryz.prog 206 #[v0,.int .i64 M] (w.alloc (.cells #[v2] 22)) fun e w'=>e= .returned (.int .i64 e0)∧(w.alloc (.cells #[v2] 22)).Extends w':=
  hcm.mono fun e w' ⟨v,he,g,hres⟩=>⟨by rw[he,wh (show iM w' (lm Z (w.alloc (.cells #[v2] 22)) w') ay (.int .i64) e0 v from hres)],g⟩
 have NC:=h0;have Km:=h2;obtain⟨U,B,ND,q1,hlc,Em,JR⟩:=NC;obtain⟨a2,u,Ss,q2,_,_,_⟩:=Km;obtain⟨I,R⟩:∃n,Hid (n=aa xs):=⟨_,rfl⟩;obtain⟨d,hn2⟩:∃n,Hid (n=aa ys):=⟨_,rfl⟩;have e1:v0= .slice U I B:=by rw[R.out];injection q1
 have e2:v2= .slice a2 d u:=by rw[hn2.out];injection q2
 clear q1 q2;subst e1;subst e2;refine(callsIn_wide (n:=5)).1 ?_;refine callsIn_of_wp_marks Tryz.func163 rfl trivial ?_ rfl;simp only[Tryz.ntmps163,bD,List.length_cons,List.length_nil,Nat.reduceAdd,Nat.reduceSub,Array.replicate_succ,Array.replicate_zero,List.push_toArray,List.append_toArray,bH,bU];rcases e with⟨Mg,rfl⟩|⟨rfl,V,rfl⟩|⟨rfl,V,O,GX,Im,NE,Iu,rfl⟩
 ·gi_wp2_with (refine⟨trivial,?_⟩;gi_at_call 206;refine(callsIn_wide.2 hcm).mono ?_;rintro e z ⟨rfl,g⟩;have N:=i9 g (Boxed.new w 22 (.slice a2 d u));have Pw:=N.cell)
  exact⟨_,results_tmp2 rfl _ _ _,Gg (H.trans g) zV rfl⟩
 ·rw[←hn2.out]at V
  gi_wp2_with (refine⟨trivial,?_⟩;gi_at_call 206;refine(callsIn_wide.2 hcm).mono ?_;rintro e z ⟨rfl,g⟩;have N:=i9 g (Boxed.new w 22 (.slice a2 d u));have Pw:=N.cell)
  exact⟨_,results_tmp2 rfl _ _ _,Gg (H.trans g) zV rfl⟩
 ·rw[←hn2.out]at V O GX;rw[←R.out]at Im;subst V
  gi_wp2_with (first
     |(refine⟨trivial,?_⟩;gi_at_call 206;refine(callsIn_wide.2 hcm).mono ?_;rintro e z ⟨rfl,g⟩;have N:=i9 g (Boxed.new w 22 (.slice a2 d u));have Pw:=N.cell)
     |(refine⟨trivial,?_⟩;gi_at_call 207;refine(Tryz.B0 _ _ trivial rfl _ _ _ _ (by omega) (by omega) _).mono ?_;rintro e w' ⟨rfl,rfl⟩))
  have NF:∀j,PR w Z Zp (.sl (.int .i8)) ((xs.drop (j*d)).take d) [lq U I d j]:=fun j=>B1 R.out Em JR d j;have hpos:0<I→∀j,j<zS I d→∃y,Fd ((xs.drop (j*d)).take d,ys)=some y:=fun _ j hj=>by
   refine BU _ _ _ Iu _ ?_;rw[←hn2.out];simp only[chunks,upto,List.mem_map,List.mem_range];exact⟨j,by rw[←R.out];exact hj,rfl⟩
  let α:={ p:Value×List Int // PR w Z Zp (.sl (.int .i8)) p.2 [p.1]∧(0<I→∃y,Fd (p.2,ys)=some y) }
  have hz0:∀j,j<zS I d∨j=0→PR w Z Zp (.sl (.int .i8)) ((xs.drop (j*d)).take d) [lq U I d j]∧(0<I→∃y,Fd ((xs.drop (j*d)).take d,ys)=some y):=fun j hj=>⟨NF j,fun h=>hpos h j (by
   rcases hj with hj |hj
   ·exact hj
   ·rw[hj];exact(pM O).2 (by omega))⟩
  let fj:Nat→α:=fun j=>if h:j<zS I d then⟨(lq U I d j,(xs.drop (j*d)).take d),hz0 j (.inl h)⟩else⟨(lq U I d 0,(xs.drop (0*d)).take d),hz0 0 (.inr rfl)⟩
  let t:List α→List Int:=fun a=>(hI (fun T=>Fd (T,ys)) (a.map fun x=>x.1.2)).getD []
  obtain⟨w4,S⟩:∃w4,((z.alloc (.cells #[.slice none 0 0] 47)).alloc (.cells #[.slice U I B] 22)).alloc (.cells #[.int .i64 (d:Int)] 3)=w4:=⟨_,rfl⟩;have bO:Boxed w4 z.heap.size 47 (.slice none 0 0):=by rw[←S];exact((Boxed.new z _ _).alloc _).alloc _
  have bS:Boxed w4 (z.heap.size+1) 22 (.slice U I B):=by rw[←S];have:=(Boxed.new (z.alloc (.cells #[.slice none 0 0] 47)) 22 (.slice U I B)).alloc (.cells #[.int .i64 (d:Int)] 3);rwa[World.size_alloc]at this
  have bN:Boxed w4 (z.heap.size+1+1) 3 (.int .i64 (d:Int)):=by rw[←S];have:=Boxed.new ((z.alloc (.cells #[.slice none 0 0] 47)).alloc (.cells #[.slice U I B] 22)) 3 (.int .i64 (d:Int));rwa[World.size_alloc,World.size_alloc]at this
  have bX:Boxed w4 w.heap.size 22 (.slice a2 d u):=by rw[←S];exact((N.alloc _).alloc _).alloc _
  have hsz:w4.heap.size=z.heap.size+3:=by rw[←S];simp
  have NG:Below z.heap.size z w4:=by rw[←S];exact(((Below.refl _ z).alloc (aq _) _).alloc (by simp) _).alloc (by simp;omega) _
  have Ly:w.heap.size<z.heap.size:=by have:=g.size;simp at this;omega
  rw[S];have hstops:=Tryz.tg (α:=α) Fence.wide 4 trivial rfl (by omega) (z.heap.size+1) (z.heap.size+1+1) U I B d (by rw[R.out];exact hlc) Im O GX (fun x=>x.1.1) fj (by
   by_cases hn:I=0
   ·exact .inl hn
   ·right;have hne:ND≠[]:=by
     intro h;rw[h]at Em;have:=(i2 xs []).1 Em;have hx:xs=[]:=by simpa using this.symm
     have:=R.out;rw[hx]at this;exact hn this
    obtain⟨b,off,rfl,_⟩:=JR hne;refine⟨b,off,rfl,fun j hj=> ?_⟩;have hj':j<zS I d:=(pM O).2 hj;simp only[fj];rw[dif_pos hj'];rfl) w4 (by omega) (by omega) bS.cell bN.cell
  refine wpIn_rangeFunc_ownG (F:=Fence.wide) rfl (by omega) (gf:=232) (lb:= #[.pointer (some ⟨z.heap.size+1,0,none⟩),.pointer (some ⟨z.heap.size+1+1,0,none⟩)]) rfl trivial (enters_of Tryz.func232 (by kernel_rfl) rfl)
   hstops Dr.trans (fun W l o o' hl hlo Nf _=>⟨World.putObj_heap_other (by omega),World.putObj_heap_other (by omega)⟩) (Below.refl _ _) (fun _=>rfl)
   (fun a W=>(∃v,Boxed W z.heap.size 47 v∧W.ownsRow z.heap.size 2 1 v (t a).length ((t a).map (aG .i64))∧∃o,hI (fun T=>Fd (T,ys)) (a.map fun x=>x.1.2)=some o)∧Below z.heap.size z W∧Boxed W (z.heap.size+1) 22 (.slice U I B)∧Boxed W (z.heap.size+1+1) 3 (.int .i64 (d:Int)))
   (fun _ _ _=>False)
   (OwnFrom.and (Own.from (holdsRow_own z.heap.size z.heap.size 47 2 1 (fun a=>(t a).length) (fun a=>(t a).map (aG .i64)) (fun a v=>∃o,hI (fun T=>Fd (T,ys)) (a.map fun x=>x.1.2)=some o)) _) (OwnFrom.and (ownFrom_below (aq _) (by omega)) (OwnFrom.and (Own.from (boxed_own (β:=List α) _ _ (fun _=>_)) _) (Own.from (boxed_own (β:=List α) _ _ (fun _=>_)) _))))
   (fun _ _ _ _ _ hs _ _=>hs)
   ⟨⟨_,bO,World.ownsRow_nil _ _ _ _,[],rfl⟩,NG,bS,bN⟩
   (fun x=>{ tmps:= #[Value.slice U I B,aG ch d,Value.slice a2 d u,undef,undef,
     Value.pointer (some { block:=w.heap.size,off:=0 }),Value.slice none 0 0,aG ch 0,
     aG ch 0,Value.pointer (some { block:=z.heap.size,off:=0 }),x.1.1,
     Value.slice U I B,aG ch d,aG ch 0,aG ch 0,
     Value.bool false,undef,Value.slice a2 d u,aG ch d,aG ch d,
     Value.bool false,Value.slice U I B,aG ch d,
     Value.func (Fn.func 232) #[]
      #[Value.pointer (some { block:=z.heap.size+1,off:=0 }),
       Value.pointer (some { block:=z.heap.size+1+1,off:=0 })],
     x.1.1,undef,undef,undef,undef,undef,undef,undef],defers:=[] }) ?assign ?body ?done ?stop
  case assign=>
   intro l x W K hK
   gi_wp2
   exact hK
  case stop=>
   rintro D c a W _ _ h _;exact h.elim
  case body=>
   rintro l a x W ⟨⟨v,hv,X,o,ho⟩,Y,NH,NI⟩ hlt;have hpre:a.length<1000000000:=by
    have h1:=(pM O).1 hlt;have h2:a.length≤a.length*d:=Nat.le_mul_of_pos_right _ O;omega
   have Gq:(t a).length=a.length:=by
    simp only[t];rw[ho,Option.getD_some,BV _ _ _ ho,List.length_map]
   have I8:0<I:=by have:=(pM O).1 hlt;omega
   obtain⟨y,hy⟩:=x.2.2 I8;have NJ:Boxed W w.heap.size 22 (.slice a2 d u):=(Y.block _ Ly).trans N;have Rp:=NJ.cell;have Rq:=hv.cell;have Lz:(w.alloc (.cells #[.slice a2 d u] 22)).Extends z:=g;have J:∀b i,b<w.heap.size→W.cell? ⟨b,i,none⟩=w.cell? ⟨b,i,none⟩:=fun b i E=>(az (Y.block b (by omega))).trans ((Lz.cell _ (by simp;omega)).trans (H.cell _ E));have LA:w.heap.size≤W.heap.size:=by have:=Y.size;omega
   have hdc:=hd.calls W.drew Z Zp (x.1.2,ys) y [x.1.1,.slice a2 d u] (fun b i E=>aK (hz b i E) LA) (fun b i E=>aK (Hg b i E) LA)
    ⟨_,_,rfl,PR.mono (fun b i E=>⟨E,J b i (hz b i E)⟩) (fun b i E=>⟨E,J b i (Hg b i E)⟩) _ _ _ x.2.1,_,rfl,PR.mono (fun b i E=>⟨E,J b i (hz b i E)⟩) (fun b i E=>⟨E,J b i (Hg b i E)⟩) _ _ _ h2⟩ hy
   replace hdc:Calls Tryz.prog 208 #[x.1.1,.slice a2 d u] W.drew fun e w'=>e= .returned (.int .i64 y)∧W.drew.Extends w':=
    hdc.mono fun e w' ⟨v,he,g,hres⟩=>⟨by rw[he,wh (show iM w' (lm Z W.drew w') ay (.int .i64) y v from hres)],g⟩
   have Px:hI (fun T=>Fd (T,ys)) ((a++[x]).map fun x=>x.1.2)=some (o++[y]):=by
    rw[List.map_append];exact yZ _ _ _ _ _ ho hy
   have Rr:t (a++[x])=t a++[y]:=by
    simp only[t];rw[Px,ho];rfl
   have Il:Tryz.prog.follows .mixedOrders=true:=by kernel_rfl
   obtain⟨i0,hi,hz0,hz1,hz2⟩:=info_parts It
   gi_wp2
   gi_region_with_o (refine⟨trivial,?_⟩;gi_at_call 208;refine(CallsIn.inRound l (callsIn_wide.2 hdc)).mono ?_;rintro e W5 ⟨rfl,q⟩;have NK:=i9 (W:=W.drew) q hv;have L:=Gf (W:=W.drew) q X;have Rs:=NK.cell;have Rt:=(NK.alloc (.cells #[.int .i64 y] 2)).cell;have LB:W.heap.size≤W5.heap.size:=q.size;obtain⟨v',w1,hrun,hown',Q,_⟩:=run_append_own (P:=Tryz.prog) (w:=W5.alloc (.cells #[.int .i64 y] 2)) z.heap.size 47 47 2 i0 (.int .i64 0) 1 8 Tryz.underlying47 hi hz0 hz1 hz2 rfl (by decide) v _ _ (L.alloc _) ⟨W5.heap.size,0,none⟩ 1 1 [.int .i64 y] rfl (cell_one_new _ _ _) (by simp[cq]) (by rw[Gq];unfold maxLen;omega) (by omega) (by have:=Y.size;simp;omega);obtain⟨g',cap',rfl⟩:=ownsRow_succ hown';obtain⟨Ka,Mr,Ms,hk2,Bk⟩:=NK.appended (by decide) L (by have:=Y.size;omega) (aq _) hown' Q;have IX:=Ka.cell;have KI:=Ka.frozen;simp[go_sem]at hrun)
   all_goals clear hrun
   all_goals rw[←Gq]
   all_goals have Ru:KeepsOthers W W5:=⟨LB,fun k o hk _=>(q.block k (Array.getElem?_eq_some_iff.1 hk).1).trans hk⟩
   all_goals have Rv:Below z.heap.size W W5:=⟨q.os,q.tape,q.output,LB,fun k hk=>q.block k (by have:=Y.size;show k<W.heap.size;omega)⟩
   all_goals have Py:=i9 (W:=W.drew) q NH
   all_goals have Pz:=i9 (W:=W.drew) q NI
   all_goals have LC:=((Py.alloc _).kept Q (Py.not_row (by decide) L)).other (B':=z.heap.size) (by omega) (.slice (some ⟨g',0,none⟩) ((t a).length+1) cap')
   all_goals have LD:=((Pz.alloc _).kept Q (Pz.not_row (by decide) L)).other (B':=z.heap.size) (by omega) (.slice (some ⟨g',0,none⟩) ((t a).length+1) cap')
   all_goals exact⟨(Ru.trans hk2).from _,⟨LC.trans NH.symm,LD.trans NI.symm⟩,⟨_,Mr,by rw[Rr];simpa using Ms,_,Px⟩,Y.trans (Rv.trans Bk),LC,LD⟩
  case done=>
   rintro D a W hD rfl ⟨⟨v,hv,X,o,ho⟩,Y,NH,NI⟩ hK;have hc:=hv.cell
   gi_wp2
   refine⟨by simp,.inl ⟨_,_,rfl,run_takeDeferred hK,?_⟩⟩;refine⟨_,results_tmp2 rfl _ _ _,?_⟩;have Su:z.heap.size≤D:=by omega
   have zK:w.Extends (W.putObj D (.deferred none)):=by
    refine th (H.trans g) (Y.os) (Y.tape) (Y.output) (by have:=Y.size;simp;omega) fun i hi=> ?_;rw[World.putObj_heap_other (by omega)];exact Y.block i (by omega)
   have Rw:((upto fj (zS I d)).map fun x=>x.1.2)=chunks ys.length xs:=by
    simp only[chunks,upto,List.map_map];rw[←hn2.out,←R.out];refine List.map_congr_left fun j hj=> ?_;have hj:=List.mem_range.1 hj;simp only[Function.comp,fj];rw[dif_pos hj]
   have hout:t (upto fj (zS I d))=NE:=by
    simp only[t];rw[Rw,Iu];rfl
   rw[hout]at X;exact Gg zK (D3 (by omega) (ownsRow_putObj X _ hK rfl)) rfl
theorem zW{c:List Int×Int→Option Int}{Fd:List Int×List Int→Option Int}(hm:aw Tryz.prog 206 ⟨[.sl (.int .i8),.int .i64],[.int .i64],c⟩)(k:aw Tryz.prog 208 ⟨[.sl (.int .i8),.sl (.int .i8)],[.int .i64],Fd⟩):
  aw Tryz.prog 163 ⟨[.sl (.int .i8),.int .i64,.sl (.int .i8)],[.sl (.int .i64),.int .i64],we c Fd⟩:=by
 refine⟨⟨f163,func163,by kernel_rfl,by kernel_rfl⟩,rfl,fun w Z g x r d l b j e=> ?_⟩;obtain⟨v0,_,rfl,h,n,_,rfl,a,o,rfl,i⟩:=j;have a:n= .int .i64 x.2.1:=wh a;subst a;exact B2 hm k w Z g x.1 x.2.1 x.2.2 r v0 o l b h i e
end Tryz
end Go.Proofs
namespace Go.Proofs
open Go.RowKit Go.Shelf Go.Am Go.IntWalk
attribute [local go_sem] Oper.semAt_some
namespace Tryz
theorem zX{i:List Int×Int→Option Int}{d:List Int}{a:Int}{r:List Int×Int}(h:wg i (d,a)=some r):
  ∃e0,i (d,a)=some e0∧((e0≠0∧r=([],e0))∨(e0=0∧1≤a∧a≤1000000000000∧d.length≤1000000000∧r=((chunks a.toNat d).map mH,0))):=by
 unfold wg at h;obtain⟨e0,g,h⟩:=Option.bind_eq_some_iff.1 h;refine⟨e0,g,?_⟩;rcases ja h with⟨b,h⟩|⟨b,h⟩
 ·cases h;exact .inl ⟨by simpa using b,rfl⟩
 ·have b:e0=0:=by simpa using b
  rcases ja h with⟨c,h⟩|⟨c,h⟩
  ·simp only[ae,decide_eq_true_eq]at c
   cases h;exact .inr ⟨b,c.1.1,c.1.2,c.2,rfl⟩
  ·cases h
theorem Dt(row:List Int)(j:Nat)(x:Int)(h:row[j]? =some x):mH (row.take (j+1))=Gb (mH (row.take j)) x:=by
 unfold mH;rw[List.take_add_one,h,Option.toList_some,List.foldl_append];rfl
theorem LF{m j:Nat}(h:j<m):m -(intOf (.int .i64 ((j+1:Nat):Int))).toNat<m -(intOf (.int .i64 (j:Int))).toNat:=by simp[intOf];omega
set_option maxRecDepth 100000 in
set_option maxHeartbeats 4000000 in
theorem B3{Fm:List Int×Int→Option Int}(hm:aw Tryz.prog 206 ⟨[.sl (.int .i8),.int .i64],[.int .i64],Fm⟩)
  (w:World) (Z Zp:aL) (Y:List Int) (t:Int) (r:List Int×Int) (v0:Value) (hz:∀b i,Z b i→b<w.heap.size) (Hg:∀b i,Zp b i→b<w.heap.size)
  (h0:PR w Z Zp (.sl (.int .i8)) Y [v0]) (e:wg Fm (Y,t)=some r):
  Calls Tryz.prog 221 #[v0,.int .i64 t] w fun e w'=>∃v,e= .returned v∧w.Extends w'∧mf w' (lm Z w w') ay [.sl (.int .i64),.int .i64] r v:=by
 obtain⟨e0,NB,e⟩:=zX e;have T:=hm.calls w Z Zp (Y,t) e0 [v0,.int .i64 t] hz Hg ⟨v0,_,rfl,h0,_,rfl,rfl⟩ NB;replace T:Calls Tryz.prog 206 #[v0,.int .i64 t] w fun e w'=>e= .returned (.int .i64 e0)∧w.Extends w':=
  T.mono fun e w' ⟨v,he,u,hres⟩=>⟨by rw[he,wh (show iM w' (lm Z w w') ay (.int .i64) e0 v from hres)],u⟩
 have NC:=h0;obtain⟨N,g,ND,q1,hlc,Em,JR⟩:=NC;obtain⟨L,H⟩:∃n,Hid (n=aa Y):=⟨_,rfl⟩;have e1:v0= .slice N L g:=by rw[H.out];injection q1
 clear q1;subst e1;refine(callsIn_wide (n:=5)).1 ?_;refine callsIn_of_wp_marks Tryz.func221 rfl trivial ?_ rfl;simp only[Tryz.ntmps221,bD,List.length_cons,List.length_nil,Nat.reduceAdd,Nat.reduceSub,Array.replicate_succ,Array.replicate_zero,List.push_toArray,List.append_toArray,bH,bU];rcases e with⟨Mg,rfl⟩|⟨rfl,U,GX,Im,rfl⟩
 ·gi_wp2_with (refine⟨trivial,?_⟩;gi_at_call 206;refine(callsIn_wide.2 T).mono ?_;rintro e k ⟨rfl,u⟩)
  exact⟨_,results_tmp2 rfl _ _ _,Gg u zV rfl⟩
 ·obtain⟨B,rfl⟩:∃B:Nat,t=(B:Int):=⟨t.toNat,by omega⟩;have U:1≤B:=by omega
  have GX:B≤1000000000000:=by omega
  rw[←H.out]at Im;rw[Int.toNat_natCast]
  gi_wp2_with (first
     |(refine⟨trivial,?_⟩;gi_at_call 206;refine(callsIn_wide.2 T).mono ?_;rintro e k ⟨rfl,u⟩)
     |(refine⟨trivial,?_⟩;gi_at_call 207;refine(Tryz.B0 _ _ trivial rfl _ _ _ _ (by omega) (by omega) _).mono ?_;rintro e w' ⟨rfl,rfl⟩))
  have NF:∀j,PR w Z Zp (.sl (.int .i8)) ((Y.drop (j*B)).take B) [lq N L B j]:=fun j=>B1 H.out Em JR B j
  let α:={ p:Value×List Int // PR w Z Zp (.sl (.int .i8)) p.2 [p.1]∧p.2.length≤1000000000 }
  let fj:Nat→α:=fun j=>⟨(lq N L B j,(Y.drop (j*B)).take B),NF j,by have:=H.out;simp only[aP,bV];omega⟩
  let d:List α→List Int:=fun a=>a.map fun x=>mH x.1.2
  obtain⟨w4,M⟩:∃w4,((k.alloc (.cells #[.slice none 0 0] 47)).alloc (.cells #[.slice N L g] 22)).alloc (.cells #[.int .i64 (B:Int)] 3)=w4:=⟨_,rfl⟩;have bO:Boxed w4 k.heap.size 47 (.slice none 0 0):=by rw[←M];exact((Boxed.new k _ _).alloc _).alloc _
  have bS:Boxed w4 (k.heap.size+1) 22 (.slice N L g):=by rw[←M];have:=(Boxed.new (k.alloc (.cells #[.slice none 0 0] 47)) 22 (.slice N L g)).alloc (.cells #[.int .i64 (B:Int)] 3);rwa[World.size_alloc]at this
  have bN:Boxed w4 (k.heap.size+1+1) 3 (.int .i64 (B:Int)):=by rw[←M];have:=Boxed.new ((k.alloc (.cells #[.slice none 0 0] 47)).alloc (.cells #[.slice N L g] 22)) 3 (.int .i64 (B:Int));rwa[World.size_alloc,World.size_alloc]at this
  have hsz:w4.heap.size=k.heap.size+3:=by rw[←M];simp
  have NG:Below k.heap.size k w4:=by rw[←M];exact(((Below.refl _ k).alloc (aq _) _).alloc (by simp) _).alloc (by simp;omega) _
  have Ly:w.heap.size≤k.heap.size:=u.size;rw[M];have X:=Tryz.tg (α:=α) Fence.wide 4 trivial rfl (by omega) (k.heap.size+1) (k.heap.size+1+1) N L g B (by rw[H.out];exact hlc) Im U GX (fun x=>x.1.1) fj (by
   by_cases hn:L=0
   ·exact .inl hn
   ·right;have hne:ND≠[]:=by
     intro h;rw[h]at Em;have:=(i2 Y []).1 Em;have hx:Y=[]:=by simpa using this.symm
     have:=H.out;rw[hx]at this;exact hn this
    obtain⟨b,off,rfl,_⟩:=JR hne;exact⟨b,off,rfl,fun j hj=>rfl⟩) w4 (by omega) (by omega) bS.cell bN.cell
  refine wpIn_rangeFunc_ownG (F:=Fence.wide) rfl (by omega) (gf:=232) (lb:= #[.pointer (some ⟨k.heap.size+1,0,none⟩),.pointer (some ⟨k.heap.size+1+1,0,none⟩)]) rfl trivial (enters_of Tryz.func232 (by kernel_rfl) rfl)
   X Dr.trans (fun W l o o' hl hlo Nf _=>⟨World.putObj_heap_other (by omega),World.putObj_heap_other (by omega)⟩) (Below.refl _ _) (fun _=>rfl)
   (fun a W=>(∃v,Boxed W k.heap.size 47 v∧W.ownsRow k.heap.size 2 1 v (d a).length ((d a).map (aG .i64))∧True)∧Below k.heap.size k W∧Boxed W (k.heap.size+1) 22 (.slice N L g)∧Boxed W (k.heap.size+1+1) 3 (.int .i64 (B:Int)))
   (fun _ _ _=>False)
   (OwnFrom.and (Own.from (holdsRow_own k.heap.size k.heap.size 47 2 1 (fun a=>(d a).length) (fun a=>(d a).map (aG .i64)) (fun a v=>True)) _) (OwnFrom.and (ownFrom_below (aq _) (by omega)) (OwnFrom.and (Own.from (boxed_own (β:=List α) _ _ (fun _=>_)) _) (Own.from (boxed_own (β:=List α) _ _ (fun _=>_)) _))))
   (fun _ _ _ _ _ hs _ _=>hs)
   ⟨⟨_,bO,World.ownsRow_nil _ _ _ _,trivial⟩,NG,bS,bN⟩
   (fun x=>{ tmps:= #[Value.slice N L g,aG ch B,undef,undef,Value.slice none 0 0,aG ch 0,aG ch 0,
     Value.pointer (some { block:=k.heap.size,off:=0 }),x.1.1,undef,undef,undef,
     Value.slice N L g,aG ch B,aG ch 0,aG ch 0,
     Value.bool false,undef,Value.slice N L g,aG ch B,
     Value.func (Fn.func 232) #[]
      #[Value.pointer (some { block:=k.heap.size+1,off:=0 }),
       Value.pointer (some { block:=k.heap.size+1+1,off:=0 })],
     x.1.1,undef,undef,undef,undef,undef,undef,undef,undef,undef,undef,undef,undef,undef,undef,undef,undef,undef,undef,undef,undef],defers:=[] }) ?assign ?body ?done ?stop
  case assign=>
   intro l x W K hK
   gi_wp2
   exact hK
  case stop=>
   rintro D c a W _ _ h _;exact h.elim
  case body=>
   rintro l a x W ⟨⟨v,hv,z,-⟩,Q,S,R⟩ hlt;have hpre:a.length<1000000000:=by
    have h1:=(pM U).1 hlt;have h2:a.length≤a.length*B:=Nat.le_mul_of_pos_right _ U;omega
   have Gq:(d a).length=a.length:=by simp only[d];rw[List.length_map]
   have Rq:=hv.cell;have hcell:∀b i,b<w.heap.size→W.cell? ⟨b,i,none⟩=w.cell? ⟨b,i,none⟩:=fun b i hb=>(az (Q.block b (by omega))).trans (u.cell _ hb);have V:∀x,d (a++[x])=d a++[mH x.1.2]:=fun x=>by simp only[d,List.map_append,aQ,List.map_nil]
   obtain⟨i0,hi,hz0,hz1,hz2⟩:=info_parts It;obtain⟨⟨ab,NL,NM,q2,hlb,J,NN⟩,hrl⟩:=x.2;obtain⟨q,hrw⟩:∃q,x.1.2=q:=⟨_,rfl⟩;rw[hrw]at q2 hlb J hrl;have V:=V x;rw[hrw]at V;obtain⟨m,O⟩:∃n,Hid (n=aa q):=⟨_,rfl⟩;have e2:x.1.1= .slice ab m NL:=by rw[O.out];injection q2
   clear q2;rw[e2];have LG:=run_append_own (P:=Tryz.prog) (w:=W.alloc (.cells #[.int .i64 (mH q)] 2)) k.heap.size 47 47 2 i0 (.int .i64 0) 1 8 Tryz.underlying47 hi hz0 hz1 hz2 rfl (by decide) v _ _ (z.alloc _) ⟨W.heap.size,0,none⟩ 1 1 [.int .i64 (mH q)] rfl (cell_one_new _ _ _) (by simp[cq]) (by rw[Gq];unfold maxLen;omega) (by omega) (by have:=Q.size;simp;omega);obtain⟨v',w1,hrun,I,E,_⟩:=LG;obtain⟨g',cap',rfl⟩:=ownsRow_succ I;obtain⟨Ka,Mr,Ms,hk2,Bk⟩:=hv.appended (by decide) z (by have:=Q.size;omega) (aq _) I E;have IX:=Ka.cell;have KI:=Ka.frozen;simp[go_sem]at hrun
   gi_wp2
   gi_loop [9,24] (fun s i=>∃j:Nat,i= .int .i64 (j:Int)∧j≤m∧s= .int .i64 (mH (q.take j))) (fun s i=>m -(intOf i).toNat)
   case atStart=>exact⟨0,rfl,Nat.zero_le _,rfl⟩
   case round=>
    obtain⟨j,rfl,hj,rfl⟩:=hrel
    by_cases NO:j<m
    ·have hne:NM≠[]:=by
      intro h;rw[h]at J;have:=(i2 q []).1 J;have hx:q=[]:=by simpa using this.symm
      have:=O.out;rw[hx]at this;simp at this;omega
     obtain⟨b,off,rfl,hc⟩:=NN hne;obtain⟨y,hy⟩:∃y,q[j]? =some y:=⟨q[j]'(by have:=O.out;omega),ah _⟩
     have NP:NM[j]? =some (.int .i8 y):=by rw[(i2 q NM).1 J,List.getElem?_map,hy];rfl
     have PA:=(hc j _ NP);have Sv:=(hcell b (off+j) (hz _ _ PA.2)).trans PA.1;have hstep:=Dt q j y hy;clear hrun I E Ka Mr Ms hk2 Bk IX KI
     gi_wp2
     have NQ:wrap64 ((j:Int)+1)=((j+1:Nat):Int):=by
      have:=O.out;rw[wrap64_in _ (by omega)];omega
     rw[NQ]
     go_round
     case rel=>
      refine⟨j+1,rfl,NO,?_⟩;rw[hstep];simp only[Gb,imax,Int.zero_sub,IntWalk.i64_left,gt_iff_lt]
     case measure=>exact LF NO
    ·obtain rfl:j=m:=Nat.le_antisymm hj (Nat.le_of_not_lt NO);have Rx:q.take j=q:=bw (Nat.le_of_eq O.out.symm);rw[Rx]
     gi_wp2
     rw[←Gq];have LC:=((S.alloc _).kept E (S.not_row (by decide) z)).other (B':=k.heap.size) (by omega) (.slice (some ⟨g',0,none⟩) ((d a).length+1) cap');have LD:=((R.alloc _).kept E (R.not_row (by decide) z)).other (B':=k.heap.size) (by omega) (.slice (some ⟨g',0,none⟩) ((d a).length+1) cap');exact⟨hk2.from _,⟨LC.trans S.symm,LD.trans R.symm⟩,⟨_,Mr,by rw[V];simpa using Ms⟩,Q.trans Bk,LC,LD⟩
  case done=>
   rintro D a W hD rfl ⟨⟨v,hv,z,-⟩,Q,S,R⟩ hK;have hc:=hv.cell
   gi_wp2
   refine⟨by simp,.inl ⟨_,_,rfl,run_takeDeferred hK,?_⟩⟩;refine⟨_,results_tmp2 rfl _ _ _,?_⟩;have zK:w.Extends (W.putObj D (.deferred none)):=by
    refine th u (Q.os) (Q.tape) (Q.output) (by have:=Q.size;simp;omega) fun i hi=> ?_;rw[World.putObj_heap_other (by omega)];exact Q.block i (by omega)
   have hout:d (upto fj (zS L B))=(chunks B Y).map mH:=by
    simp only[d,chunks,upto,List.map_map];rw[←H.out];rfl
   rw[hout]at z;exact Gg zK (D3 (by omega) (ownsRow_putObj z _ hK rfl)) rfl
theorem zY{c:List Int×Int→Option Int}(hm:aw Tryz.prog 206 ⟨[.sl (.int .i8),.int .i64],[.int .i64],c⟩):
  aw Tryz.prog 221 ⟨[.sl (.int .i8),.int .i64],[.sl (.int .i64),.int .i64],wg c⟩:=by
 refine⟨⟨f221,func221,by kernel_rfl,by kernel_rfl⟩,rfl,fun w Z g x r d j b i e=> ?_⟩;obtain⟨v0,_,rfl,h,k,rfl,a⟩:=i;have a:k= .int .i64 x.2:=wh a;subst a;exact B3 hm w Z g x.1 x.2 r v0 j b h e
end Tryz
end Go.Proofs
