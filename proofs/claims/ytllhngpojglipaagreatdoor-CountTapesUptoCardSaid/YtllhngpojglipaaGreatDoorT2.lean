import Derived.Test.YtllhngpojglipaaGreatDoorT1
set_option linter.unusedVariables false
set_option linter.unusedSimpArgs false
open Bool renaming and_eq_true→aj
open Int renaming toNat_natCast→ax
open Go.IntKind renaming i64→bw
open List renaming cons_append→eJ,getElem?_eq_getElem→ah,length_cons→aZ,length_drop→dI,length_map→di,length_nil→dz,length_take→aC,length→ae,map_append→eI,map_cons→cj,nil_append→bE,size_toArray→ek,take_add_one→dO,take_of_length_le→bA
open Nat renaming le_mul_of_pos_right→cB,le_refl→aA
open Go.Value renaming int→bq
open Go.World renaming cell?_of_block→bW
set_option linter.unusedVariables false
namespace Go.Proofs
open Go.RowKit Go.Shelf Go.Am Go.IntWalk
attribute [local go_sem] Oper.semAt_some
namespace Tryz
theorem ajs{Fm:List Int×Int→Option Int}{xs:List Int}{fN:Int}{r:List Int×Int}(h:PQ Fm (xs,fN)=some r):
  ∃e0,Fm (xs,fN)=some e0∧((e0≠0∧r=([],e0))∨(e0=0∧1≤fN∧fN≤1000000000000∧xs.length≤1000000000∧r=((chunks fN.toNat xs).map Fc,0))):=by
 unfold PQ at h;obtain⟨e0,he0,h⟩:=Option.bind_eq_some_iff.1 h;refine⟨e0,he0,?_⟩;rcases Fe h with⟨h1,h⟩|⟨h1,h⟩
 ·cases h;exact .inl ⟨by simpa using h1,rfl⟩
 ·have h1:e0=0:=by simpa using h1
  rcases Fe h with⟨h3,h⟩|⟨h3,h⟩
  ·simp only[aj,decide_eq_true_eq]at h3
   cases h;exact .inr ⟨h1,h3.1.1,h3.1.2,h3.2,rfl⟩
  ·cases h
theorem aoC(row:List Int)(j:Nat)(x:Int)(h:row[j]? =some x):Fc (row.take (j+1))=acR (Fc (row.take j)) x:=by
 unfold Fc;rw[dO,h,Option.toList_some,List.foldl_append];rfl
theorem aBg{m j:Nat}(h:j<m):m -(intOf (.int .i64 ((j+1:Nat):Int))).toNat<m -(intOf (.int .i64 (j:Int))).toNat:=by simp[intOf];omega
set_option maxRecDepth 100000 in
set_option maxHeartbeats 4000000 in
theorem al8{Fm:List Int×Int→Option Int}(hm:aq Tryz.prog 235 ⟨[.sl (.int .i8),.int .i64],[.int .i64],Fm⟩)
  (w:World) (Z Zp:cD) (xs:List Int) (fN:Int) (r:List Int×Int) (v0:Value) (hz:∀b i,Z b i→b<w.heap.size) (hzp:∀b i,Zp b i→b<w.heap.size)
  (h0:PR w Z Zp (.sl (.int .i8)) xs [v0]) (e:PQ Fm (xs,fN)=some r):
  Calls Tryz.prog 226 #[v0,.int .i64 fN] w fun e w'=>∃v,e= .returned v∧w.Extends w'∧PK w' (Zc Z w w') jT [.sl (.int .i64),.int .i64] r v:=by
 obtain⟨e0,he0,e⟩:=ajs e;have hcm:=hm.calls w Z Zp (xs,fN) e0 [v0,.int .i64 fN] hz hzp ⟨v0,_,rfl,h0,_,rfl,rfl⟩ he0;replace hcm:Calls Tryz.prog 235 #[v0,.int .i64 fN] w fun e w'=>e= .returned (.int .i64 e0)∧w.Extends w':=
  hcm.mono fun e w' ⟨v,he,r9,hres⟩=>⟨by rw[he,acT (show yv w' (Zc Z w w') jT (.int .i64) e0 v from hres)],r9⟩
 have h0':=h0;obtain⟨a0,Ea,us0,q1,hlc,hus,hat⟩:=h0';obtain⟨n0,hn0⟩:∃n,Hid (n=ae xs):=⟨_,rfl⟩;have e1:v0= .slice a0 n0 Ea:=by rw[hn0.out];injection q1
 clear q1;subst e1;refine(callsIn_wide (n:=5)).1 ?_;refine callsIn_of_wp_marks Tryz.func226 rfl trivial ?_ rfl;simp only[Tryz.ntmps226,ek,aZ,dz,Nat.reduceAdd,Nat.reduceSub,Array.replicate_succ,Array.replicate_zero,List.push_toArray,List.append_toArray,bE,eJ];rcases e with⟨h00,rfl⟩|⟨rfl,u5,Ng,hg3,rfl⟩
 ·gi_wp2_with (refine⟨trivial,?_⟩;gi_at_call 235;refine(callsIn_wide.2 hcm).mono ?_;rintro e w2 ⟨rfl,r9⟩)
  exact⟨_,results_tmp2 rfl _ _ _,atf r9 ajq rfl⟩
 ·obtain⟨n2,rfl⟩:∃n2:Nat,fN=(n2:Int):=⟨fN.toNat,by omega⟩;have u5:1≤n2:=by omega
  have Ng:n2≤1000000000000:=by omega
  rw[←hn0.out]at hg3;rw[ax]
  gi_wp2_with (first
     |(refine⟨trivial,?_⟩;gi_at_call 235;refine(callsIn_wide.2 hcm).mono ?_;rintro e w2 ⟨rfl,r9⟩)
     |(refine⟨trivial,?_⟩;gi_at_call 236;refine(Tryz.al4 _ _ trivial rfl _ _ _ _ (by omega) (by omega) _).mono ?_;rintro e w' ⟨rfl,rfl⟩))
  have hK0:∀j,PR w Z Zp (.sl (.int .i8)) ((xs.drop (j*n2)).take n2) [GV a0 n0 n2 j]:=fun j=>al5 hn0.out hus hat n2 j
  let α:={ p:Value×List Int // PR w Z Zp (.sl (.int .i8)) p.2 [p.1]∧p.2.length≤1000000000 }
  let fj:Nat→α:=fun j=>⟨(GV a0 n0 n2 j,(xs.drop (j*n2)).take n2),hK0 j,by have:=hn0.out;simp only[aC,dI];omega⟩
  let outs:List α→List Int:=fun pre=>pre.map fun x=>Fc x.1.2
  obtain⟨w4,hw4⟩:∃w4,((w2.alloc (.cells #[.slice none 0 0] 126)).alloc (.cells #[.slice a0 n0 Ea] 28)).alloc (.cells #[.int .i64 (n2:Int)] 3)=w4:=⟨_,rfl⟩;have bO:Boxed w4 w2.heap.size 126 (.slice none 0 0):=by rw[←hw4];exact((Boxed.new w2 _ _).alloc _).alloc _
  have bS:Boxed w4 (w2.heap.size+1) 28 (.slice a0 n0 Ea):=by rw[←hw4];have:=(Boxed.new (w2.alloc (.cells #[.slice none 0 0] 126)) 28 (.slice a0 n0 Ea)).alloc (.cells #[.int .i64 (n2:Int)] 3);rwa[World.size_alloc]at this
  have bN:Boxed w4 (w2.heap.size+1+1) 3 (.int .i64 (n2:Int)):=by rw[←hw4];have:=Boxed.new ((w2.alloc (.cells #[.slice none 0 0] 126)).alloc (.cells #[.slice a0 n0 Ea] 28)) 3 (.int .i64 (n2:Int));rwa[World.size_alloc,World.size_alloc]at this
  have hsz:w4.heap.size=w2.heap.size+3:=by rw[←hw4];simp
  have hB4:Below w2.heap.size w2 w4:=by rw[←hw4];exact(((Below.refl _ w2).alloc (aA _) _).alloc (by simp) _).alloc (by simp;omega) _
  have aBa:w.heap.size≤w2.heap.size:=r9.size;rw[hw4];have hstops:=Tryz.XM (α:=α) Fence.wide 4 trivial rfl (by omega) (w2.heap.size+1) (w2.heap.size+1+1) a0 n0 Ea n2 (by rw[hn0.out];exact hlc) hg3 u5 Ng (fun x=>x.1.1) fj (by
   by_cases hn:n0=0
   ·exact .inl hn
   ·right;have hne:us0≠[]:=by
     intro h;rw[h]at hus;have:=(zd xs []).1 hus;have hx:xs=[]:=by simpa using this.symm
     have:=hn0.out;rw[hx]at this;exact hn this
    obtain⟨b,off,rfl,_⟩:=hat hne;exact⟨b,off,rfl,fun j hj=>rfl⟩) w4 (by omega) (by omega) bS.cell bN.cell
  refine wpIn_rangeFunc_ownG (F:=Fence.wide) rfl (by omega) (gf:=263) (lb:= #[.pointer (some ⟨w2.heap.size+1,0,none⟩),.pointer (some ⟨w2.heap.size+1+1,0,none⟩)]) rfl trivial (enters_of Tryz.func263 (by kernel_rfl) rfl)
   hstops KpC.trans (fun W l o o' hl hlo hoc _=>⟨World.putObj_heap_other (by omega),World.putObj_heap_other (by omega)⟩) (Below.refl _ _) (fun _=>rfl)
   (fun pre W=>(∃v,Boxed W w2.heap.size 126 v∧W.ownsRow w2.heap.size 2 1 v (outs pre).length ((outs pre).map (bq .i64))∧True)∧Below w2.heap.size w2 W∧Boxed W (w2.heap.size+1) 28 (.slice a0 n0 Ea)∧Boxed W (w2.heap.size+1+1) 3 (.int .i64 (n2:Int)))
   (fun _ _ _=>False)
   (OwnFrom.and (Own.from (holdsRow_own w2.heap.size w2.heap.size 126 2 1 (fun pre=>(outs pre).length) (fun pre=>(outs pre).map (bq .i64)) (fun pre v=>True)) _) (OwnFrom.and (ownFrom_below (aA _) (by omega)) (OwnFrom.and (Own.from (boxed_own (β:=List α) _ _ (fun _=>_)) _) (Own.from (boxed_own (β:=List α) _ _ (fun _=>_)) _))))
   (fun _ _ _ _ _ hs _ _=>hs)
   ⟨⟨_,bO,World.ownsRow_nil _ _ _ _,trivial⟩,hB4,bS,bN⟩
   (fun x=>{ tmps:= #[Value.slice a0 n0 Ea,bq bw n2,undef,undef,Value.slice none 0 0,bq bw 0,bq bw 0,
     Value.pointer (some { block:=w2.heap.size,off:=0 }),x.1.1,undef,undef,undef,
     Value.slice a0 n0 Ea,bq bw n2,bq bw 0,bq bw 0,
     Value.bool false,undef,Value.slice a0 n0 Ea,bq bw n2,
     Value.func (Fn.func 263) #[]
      #[Value.pointer (some { block:=w2.heap.size+1,off:=0 }),
       Value.pointer (some { block:=w2.heap.size+1+1,off:=0 })],
     x.1.1,undef,undef,undef,undef,undef,undef,undef,undef,undef,undef,undef,undef,undef,undef,undef,undef,undef,undef,undef,undef],defers:=[] }) ?assign ?body ?done ?stop
  case assign=>
   intro l x W K hK
   gi_wp2
   exact hK
  case stop=>
   rintro D c pre W _ _ h _;exact h.elim
  case body=>
   rintro l pre x W ⟨⟨v,hv,hrow,-⟩,hB,bS',bN'⟩ hlt;have hpre:pre.length<1000000000:=by
    have h1:=(PS u5).1 hlt;have h2:pre.length≤pre.length*n2:=cB _ u5;omega
   have J5:(outs pre).length=pre.length:=by simp only[outs];rw[di]
   have hcO:=hv.cell;have hcell:∀b i,b<w.heap.size→W.cell? ⟨b,i,none⟩=w.cell? ⟨b,i,none⟩:=fun b i hb=>(bW (hB.block b (by omega))).trans (r9.cell _ hb);have hou:∀x,outs (pre++[x])=outs pre++[Fc x.1.2]:=fun x=>by simp only[outs,eI,cj,List.map_nil]
   obtain⟨i0,hi,hz0,hz1,hz2⟩:=info_parts aw7;obtain⟨⟨ab,aDt,usb,q2,hlb,avZ,aDv⟩,hrl⟩:=x.2;obtain⟨row,hrw⟩:∃row,x.1.2=row:=⟨_,rfl⟩;rw[hrw]at q2 hlb avZ hrl;have hou:=hou x;rw[hrw]at hou;obtain⟨m,hm0⟩:∃n,Hid (n=ae row):=⟨_,rfl⟩;have e2:x.1.1= .slice ab m aDt:=by rw[hm0.out];injection q2
   clear q2;rw[e2];have aBh:=run_append_own (P:=Tryz.prog) (w:=W.alloc (.cells #[.int .i64 (Fc row)] 2)) w2.heap.size 126 126 2 i0 (.int .i64 0) 1 8 Tryz.underlying126 hi hz0 hz1 hz2 rfl (by decide) v _ _ (hrow.alloc _) ⟨W.heap.size,0,none⟩ 1 1 [.int .i64 (Fc row)] rfl (cell_one_new _ _ _) (by simp[Value.oneCell']) (by rw[J5];unfold maxLen;omega) (by omega) (by have:=hB.size;simp;omega);obtain⟨v',w1,hrun,hown',hgrow,_⟩:=aBh;obtain⟨g',cap',rfl⟩:=ownsRow_succ hown';obtain⟨hv1,hv2,hr2,hk2,J0⟩:=hv.appended (by decide) hrow (by have:=hB.size;omega) (aA _) hown' hgrow;have YZ:=hv1.cell;have hf1:=hv1.frozen;simp[go_sem]at hrun
   gi_wp2
   gi_loop [9,24] (fun s i=>∃j:Nat,i= .int .i64 (j:Int)∧j≤m∧s= .int .i64 (Fc (row.take j))) (fun s i=>m -(intOf i).toNat)
   case atStart=>exact⟨0,rfl,Nat.zero_le _,rfl⟩
   case round=>
    obtain⟨j,rfl,hj,rfl⟩:=hrel
    by_cases hjm:j<m
    ·have hne:usb≠[]:=by
      intro h;rw[h]at avZ;have:=(zd row []).1 avZ;have hx:row=[]:=by simpa using this.symm
      have:=hm0.out;rw[hx]at this;simp at this;omega
     obtain⟨b,off,rfl,hc⟩:=aDv hne;obtain⟨y,hy⟩:∃y,row[j]? =some y:=⟨row[j]'(by have:=hm0.out;omega),ah _⟩
     have aDx:usb[j]? =some (.int .i8 y):=by rw[(zd row usb).1 avZ,List.getElem?_map,hy];rfl
     have hcy:=(hc j _ aDx);have hcW:=(hcell b (off+j) (hz _ _ hcy.2)).trans hcy.1;have hstep:=aoC row j y hy;clear hrun hown' hgrow hv1 hv2 hr2 hk2 J0 YZ hf1
     gi_wp2
     have aDy:wrap64 ((j:Int)+1)=((j+1:Nat):Int):=by
      have:=hm0.out;rw[wrap64_in _ (by omega)];omega
     rw[aDy]
     go_round
     case rel=>
      refine⟨j+1,rfl,hjm,?_⟩;rw[hstep];simp only[acR,imax,Int.zero_sub,IntWalk.i64_left,gt_iff_lt]
     case measure=>exact aBg hjm
    ·obtain rfl:j=m:=Nat.le_antisymm hj (Nat.le_of_not_lt hjm);have hrt:row.take j=row:=bA (Nat.le_of_eq hm0.out.symm);rw[hrt]
     gi_wp2
     rw[←J5];have bS6:=((bS'.alloc _).kept hgrow (bS'.not_row (by decide) hrow)).other (B':=w2.heap.size) (by omega) (.slice (some ⟨g',0,none⟩) ((outs pre).length+1) cap');have bN6:=((bN'.alloc _).kept hgrow (bN'.not_row (by decide) hrow)).other (B':=w2.heap.size) (by omega) (.slice (some ⟨g',0,none⟩) ((outs pre).length+1) cap');exact⟨hk2.from _,⟨bS6.trans bS'.symm,bN6.trans bN'.symm⟩,⟨_,hv2,by rw[hou];simpa using hr2⟩,hB.trans J0,bS6,bN6⟩
  case done=>
   rintro D pre W hD rfl ⟨⟨v,hv,hrow,-⟩,hB,bS',bN'⟩ hK;have hc:=hv.cell
   gi_wp2
   refine⟨by simp,.inl ⟨_,_,rfl,run_takeDeferred hK,?_⟩⟩;refine⟨_,results_tmp2 rfl _ _ _,?_⟩;have Q3:w.Extends (W.putObj D (.deferred none)):=by
    refine XN r9 (hB.os) (hB.tape) (hB.output) (by have:=hB.size;simp;omega) fun i hi=> ?_;rw[World.putObj_heap_other (by omega)];exact hB.block i (by omega)
   have hout:outs (upto fj (pcs n0 n2))=(chunks n2 xs).map Fc:=by
    simp only[outs,chunks,upto,List.map_map];rw[←hn0.out];rfl
   rw[hout]at hrow;exact atf Q3 (aqd (by omega) (ownsRow_putObj hrow _ hK rfl)) rfl
theorem ajt{Fm:List Int×Int→Option Int}(hm:aq Tryz.prog 235 ⟨[.sl (.int .i8),.int .i64],[.int .i64],Fm⟩):
  aq Tryz.prog 226 ⟨[.sl (.int .i8),.int .i64],[.sl (.int .i64),.int .i64],PQ Fm⟩:=by
 refine⟨⟨f226,func226,by kernel_rfl,by kernel_rfl⟩,rfl,fun w Z Zp x r args hz hzp ha e=> ?_⟩;obtain⟨v0,_,rfl,h0,v1,rfl,h1⟩:=ha;have h1:v1= .int .i64 x.2:=acT h1;subst h1;exact al8 hm w Z Zp x.1 x.2 r v0 hz hzp h0 e
end Tryz
end Go.Proofs
