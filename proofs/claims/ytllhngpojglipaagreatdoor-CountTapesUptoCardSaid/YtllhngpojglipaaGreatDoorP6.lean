import Derived.Test.YtllhngpojglipaaGreatDoorP5
import Derived.Test.YtllhngpojglipaaGreatDoorA5
set_option linter.unusedVariables false
set_option linter.unusedSimpArgs false
open Array renaming toList→eB
open Bool renaming and_eq_true→aj,not_eq_true'→aW,not_eq_true→eK,not_true→ba,or_eq_true→aB
open Go.IntKind renaming i64→bw,wrap→ap
open List renaming getD_eq_getElem?_getD→aG,getElem?_eq_getElem→ah,getElem_mem→ak,getElem_of_mem→aL,length_cons→aZ,length_nil→dz,map_append→eI,mem_cons_of_mem→aF,mem_cons_self→aH
open Nat renaming le_mul_of_pos_right→cB,mul_le_mul→bK
open Option renaming bind_some→aa
namespace Go.Am.Pu
open Go Go.Am
theorem dc{β R:Type}{L:Nat→Int→β→Option R}{len:Nat}(st:Nat→β)(P:Nat→Prop)(bad:Nat→R)(fin:R)
  (hs:∀k i:Nat,i<len→(∀j,j<i→P j)→(P i∧L (k+1) (i:Int) (st i)=L k ((i:Int)+1) (st (i+1)))∨(¬ P i∧L (k+1) (i:Int) (st i)=some (bad i)))
  (he:∀k,L (k+1) (len:Int) (st len)=some fin):
  ∀k,len<k→((∀i,i<len→P i)∧L k 0 (st 0)=some fin)∨∃i,i<len∧(∀j,j<i→P j)∧¬ P i∧L k 0 (st 0)=some (bad i):=by
 have key:∀(m k i:Nat),i+m=len→m<k→(∀j,j<i→P j)→((∀i,i<len→P i)∧L k (i:Int) (st i)=some fin)∨∃j,j<len∧(∀i,i<j→P i)∧¬ P j∧L k (i:Int) (st i)=some (bad j):=by
  intro m
  induction m with
  |zero=>
   intro k i h1 h2 h3;obtain⟨k,rfl⟩:=iY k;have:i=len:=by omega
   subst this;exact .inl ⟨h3,he k⟩
  |succ m ih=>
   intro k i h1 h2 h3;obtain⟨k,rfl⟩:=iY k;rcases hs k i (by omega) h3 with⟨h4,h5⟩|⟨h4,h5⟩
   ·rw[h5];exact ih k (i+1) (by omega) (by omega) (fun j hj=>by
     by_cases h:j=i
     ·rw[h];exact h4
     ·exact h3 j (by omega))
   ·exact .inr ⟨i,by omega,h3,h4,h5⟩
 exact fun k hk=>key len k 0 (by omega) hk (fun j hj=>by omega)
theorem Mi{k v:Ty}(hk:k.isKey=true){x:k.den}:∀l:List (k.den×v.den),(JG k.JS l x).isSome=true↔∃p∈l,p.1=x
 |[]=>by simp[JG]
 |p::l=>by
  unfold JG
  split
  ·rename_i h;have:=(wj k x p.1 hk).1 h;exact⟨fun _=>⟨p,aH,this.symm⟩,fun _=>rfl⟩
  ·rename_i h;rw[Mi hk l];constructor
   ·rintro⟨q,h1,h2⟩;exact⟨q,aF _ h1,h2⟩
   ·rintro⟨q,h1,h2⟩;rcases List.mem_cons.1 h1 with rfl |h1
    ·rw[(wj k x q.1 hk).2 h2.symm]at h;cases h
    ·exact⟨q,h1,h2⟩
def Ab(v:EW)(i:Nat):List UInt8:=v.1.getD i []
def uS(v:EW)(i:Nat):Int×Int×Int:=v.2.getD i (0,0,0)
def xU(v:EW)(x:Int):Prop:=0<x∧x<(v.1.length:Int)
def ae5(v:EW)(i:Nat):Prop:=(∀k,k<i→Ab v k≠Ab v i)∧(Ab v i=[]↔i=0)∧(Ab v i).length≤64
def am3(v:EW)(i:Nat):Prop:=(xU v (uS v i).1∧xU v (uS v i).2.1∧xU v (uS v i).2.2∧Ab v (uS v i).2.2.toNat=Ab v (uS v i).1.toNat++Ab v (uS v i).2.1.toNat)∧
 ∀k,k<i→¬ ((uS v k).1=(uS v i).1∧(uS v k).2.1=(uS v i).2.1)
structure Mj (v:EW):Prop where
 l:v.1.length≤512
 t:∀i,i<v.1.length→ae5 v i
 l2:2≤v.1.length
 m:v.2.length≤1024
 ms:∀i,i<v.2.length→am3 v i
theorem Xd{v:EW}{i:Nat}(h:i<v.1.length):idx v.1 (i:Int)=some (Ab v i):=by
 rw[bj h];unfold Ab;simp[h]
theorem apf{v:EW}{i:Nat}(h:i<v.2.length):idx v.2 (i:Int)=some (uS v i):=by
 rw[bj h];unfold uS;simp[h]
theorem Um{v:EW}{x:Int}(h:xU v x):idx v.1 x=some (Ab v x.toNat):=by
 have:=Xd (v:=v) (i:=x.toNat) (by have:=h.1;have:=h.2;omega);rw[show(x.toNat:Int)=x by have:=h.1;omega]at this;exact this
theorem M0{v:EW}{b:Nat}(h:∀x∈v.1,x.length≤b)(i:Nat):(Ab v i).length≤b:=by
 unfold Ab
 by_cases hi:i<v.1.length
 ·simp only[aG,ah hi,Option.getD_some];exact h _ (ak hi)
 ·simp[Nat.le_of_not_lt hi]
theorem awd(s:List UInt8):(s==[])=decide (s=[]):=by cases s<;>rfl
theorem ae6{s:List UInt8}{i:Nat}:(((s==[])==((i:Int)==0))=true)↔(s=[]↔i=0):=by
 rw[awd];have:((i:Int)==0)=decide (i=0):=by
  by_cases h:i=0
  ·subst h;rfl
  ·rw[decide_eq_false h,beq_eq_false_iff_ne];omega
 rw[this,beq_iff_eq,decide_eq_decide]
theorem am4{n:Nat}{v:EW}{x:Int}:∃b,lZ n (v,x)=some b∧(b=true↔xU v x):=by
 rw[Ww,fM];refine⟨_,rfl,?_⟩;rw[aj,bF,bF];exact Iff.rfl
theorem apg{n:Nat}{v:EW}{x:Int}:∃b,nD n (v,x)=some b∧(b=true↔xU v x):=by
 rw[aaj,fM];refine⟨_,rfl,?_⟩;rw[aj,bF,bF];exact Iff.rfl
theorem aph{n:Nat}{v:EW}{i:Nat}(hi:i<v.1.length)(hl:v.1.length≤1048576)(hn:2000000000≤n):∃b,zz n (v,(i:Int))=some b∧(b=true↔ae5 v i):=by
 rw[aaN,Xd hi];simp only[aa];rcases dc (L:=fun k j (_:Unit)=>kD n k ((i:Int),(),Ab v i,j,v,())) (len:=i) (fun _=>()) (fun k=>Ab v k≠Ab v i) (fun _=> .inl (false,())) (.inr ((i:Int),Ab v i,())) (by
  intro k j hj _;show(_∧kD n (k+1) _=_)∨(_∧kD n (k+1) _=_);rw[Ds,jK,Xd (show j<v.1.length by omega)];simp only[aa,af,beq_iff_eq]
  split
  ·rename_i h;exact .inr ⟨fun h'=>h' h,rfl⟩
  ·rename_i h;rw[aN];exact .inl ⟨h,rfl⟩) (by
  intro k;show kD n (k+1) _=_;rw[Ds,sS]) n (by omega)with⟨h1,h2⟩|⟨j,h1,h2,h3,h4⟩
 ·rw[h2];simp only[aa,cY];rw[fM];refine⟨_,rfl,?_⟩;rw[aj,bF];have:=ae6 (s:=Ab v i) (i:=i);rw[show(((Ab v i==(eB (ByteArray.data (ByteArray.mk (List.toArray [])))))==((i:Int)==0))=true)↔(Ab v i=[]↔i=0)from this];exact⟨fun h=>⟨h1,h.1,by omega⟩,fun h=>⟨h.2.1,by have:=h.2.2;omega⟩⟩
 ·rw[h4];exact⟨_,rfl,fun h=>(by cases h),fun h=>absurd (h.1 j h1) h3⟩
theorem ae7{n:Nat}{v:EW}{i:Nat}(ht:∀x∈v.1,x.length≤1048576){f:EW×Int→Option Bool}(hf:∀x,∃b,f (v,x)=some b∧(b=true↔xU v x)):
  ∃b,(((f (v,(uS v i).1))).bind fun v3=>av (!v3) (some true) (((f (v,(uS v i).2.1))).bind fun v4=>av (!v4) (some true)
    (((f (v,(uS v i).2.2))).bind fun v5=>av (!v5) (some true)
     (((idx v.1 (uS v i).2.2)).bind fun v6=>((idx v.1 (uS v i).1)).bind fun v7=>((idx v.1 (uS v i).2.1)).bind fun v8=>((cat v7 v8)).bind fun v9=>some (!(v6==v9))))))=some b∧
   (b=false↔xU v (uS v i).1∧xU v (uS v i).2.1∧xU v (uS v i).2.2∧Ab v (uS v i).2.2.toNat=Ab v (uS v i).1.toNat++Ab v (uS v i).2.1.toNat):=by
 obtain⟨b1,e1,h1⟩:=hf (uS v i).1;obtain⟨b2,e2,h2⟩:=hf (uS v i).2.1;obtain⟨b3,e3,h3⟩:=hf (uS v i).2.2;rw[e1];simp only[aa]
 cases b1 with
 |false=>exact⟨true,rfl,fun h=>(by cases h),fun h=>by have:=h1.2 h.1;cases this⟩
 |true=>
 have h1:=h1.1 rfl;rw[e2];simp only[aa,ba,av]
 cases b2 with
 |false=>exact⟨true,rfl,fun h=>(by cases h),fun h=>by have:=h2.2 h.2.1;cases this⟩
 |true=>
 have h2:=h2.1 rfl;rw[e3];simp only[aa,ba]
 cases b3 with
 |false=>exact⟨true,rfl,fun h=>(by cases h),fun h=>by have:=h3.2 h.2.2.1;cases this⟩
 |true=>
 have h3:=h3.1 rfl;simp only[ba];rw[Um h1,Um h2,Um h3];simp only[aa];have t1:=M0 ht (uS v i).1.toNat;have t2:=M0 ht (uS v i).2.1.toNat;unfold cat;rw[lK];refine⟨_,rfl,?_⟩;rw[Bool.not_eq_false',beq_iff_eq];exact⟨fun h=>⟨h1,h2,h3,h⟩,fun h=>h.2.2.2⟩
theorem am5{n:Nat}{v:EW}{i:Nat}(hi:i<v.2.length)(sQ:v.2.length≤1048576)(ht:∀x∈v.1,x.length≤1048576)(hn:2000000000≤n):∃b,wK n (v,(i:Int))=some b∧(b=true↔am3 v i):=by
 rw[Wx,apf hi];simp only[aa];obtain⟨b,e,h⟩:=ae7 (n:=n) (v:=v) (i:=i) ht (f:=lZ n) (fun x=>am4);rw[e];simp only[aa]
 cases b with
 |true=>exact⟨false,rfl,fun h=>(by cases h),fun h'=>by have:=h.2 h'.1;cases this⟩
 |false=>
 have h:=h.1 rfl;simp only[av];rcases dc (L:=fun k j (_:Unit)=>jC n k ((i:Int),(),(),j,v,uS v i,())) (len:=i) (fun _=>()) (fun k=>¬ ((uS v k).1=(uS v i).1∧(uS v k).2.1=(uS v i).2.1)) (fun _=> .inl (false,())) (.inr ()) (by
  intro k j hj _;show(_∧jC n (k+1) _=_)∨(_∧jC n (k+1) _=_);rw[Bx,jK,apf (show j<v.2.length by omega)];simp only[aa];rw[fM];simp only[aa,af,aj,beq_iff_eq]
  split
  ·rename_i h;exact .inr ⟨fun h'=>h' h,rfl⟩
  ·rename_i h;rw[aN];exact .inl ⟨h,rfl⟩) (by
  intro k;show jC n (k+1) _=_;rw[Bx,sS]) n (by omega)with⟨h1,h2⟩|⟨j,h1,h2,h3,h4⟩
 ·rw[h2];exact⟨true,rfl,fun _=>⟨h,h1⟩,fun _=>rfl⟩
 ·rw[h4];exact⟨false,rfl,fun h=>(by cases h),fun h=>absurd (h.2 j h1) h3⟩
theorem Mk{n:Nat}{v:EW}(hl:v.1.length≤1048576)(sQ:v.2.length≤1048576)(ht:∀x∈v.1,x.length≤1048576)(hn:2000000000≤n):∃r,oP n v=some r∧(r.2=0↔Mj v):=by
 rw[Wy,af]
 split
 ·rename_i h;rw[bF]at h;exact⟨_,rfl,fun h=>(by cases h),fun h'=>by have:=h'.l;omega⟩
 rename_i h0;rw[bF]at h0;rcases dc (L:=fun k j (_:Unit)=>jD n k ((),j,v,())) (len:=v.1.length) (fun _=>()) (ae5 v) (fun i=> .inl ((i:Int),130,())) (.inr ((),v,())) (by
  intro k j hj _;show(_∧jD n (k+1) _=_)∨(_∧jD n (k+1) _=_);obtain⟨b,e,h⟩:=aph (n:=n) hj hl hn;rw[Bz,jK,e]
  cases b with
  |true=>simp only[aa,ba,av];rw[aN];exact .inl ⟨h.1 rfl,rfl⟩
  |false=>exact .inr ⟨fun h'=>(by have:=h.2 h';cases this),rfl⟩) (by
  intro k;show jD n (k+1) _=_;rw[Bz,sS]) n (by omega)with⟨h1,h2⟩|⟨j,h1,h2,h3,h4⟩
 case inr=>rw[h4];exact⟨_,rfl,fun h=>(by cases h),fun h=>absurd (h.t j h1) h3⟩
 rw[h2];simp only[aa,cY,af,bF]
 split
 ·exact⟨_,rfl,fun h=>(by cases h),fun h'=>by have:=h'.l2;omega⟩
 split
 ·exact⟨_,rfl,fun h=>(by cases h),fun h'=>by have:=h'.m;omega⟩
 rcases dc (L:=fun k j (_:Unit)=>iO n k ((),j,v,())) (len:=v.2.length) (fun _=>()) (am3 v) (fun i=> .inl ((i:Int),131,())) (.inr ()) (by
  intro k j hj _;show(_∧iO n (k+1) _=_)∨(_∧iO n (k+1) _=_);obtain⟨b,e,h⟩:=am5 (n:=n) hj sQ ht hn;rw[yN,jK,e]
  cases b with
  |true=>simp only[aa,ba,av];rw[aN];exact .inl ⟨h.1 rfl,rfl⟩
  |false=>exact .inr ⟨fun h'=>(by have:=h.2 h';cases this),rfl⟩) (by
  intro k;show iO n (k+1) _=_;rw[yN,sS]) n (by omega)with⟨h5,h6⟩|⟨j,h5,h6,h7,h8⟩
 case inr=>rw[h8];exact⟨_,rfl,fun h=>(by cases h),fun h=>absurd (h.ms j h5) h7⟩
 rw[h6];exact⟨_,rfl,fun _=>⟨by omega,h1,by omega,by omega,h5⟩,fun _=>rfl⟩
def Jy(v:EW)(i:Nat):List (List UInt8×Int):=(List.range i).map (fun j=>(Ab v j,(j:Int)))
def Gt(v:EW)(i:Nat):List ((Int×Int)×Int):=(List.range i).map (fun j=>(((uS v j).1,(uS v j).2.1),(j:Int)))
theorem api(v:EW)(i:Nat):Jy v (i+1)=Jy v i++[(Ab v i,(i:Int))]:=by unfold Jy;rw[List.range_succ,eI];rfl
theorem apj(v:EW)(i:Nat):Gt v (i+1)=Gt v i++[(((uS v i).1,(uS v i).2.1),(i:Int))]:=by unfold Gt;rw[List.range_succ,eI];rfl
theorem ae8{p:Prop}{o:Option Int}(h:o.isSome=true↔p):(¬ p→o.isSome=false):=fun hp=>by
 cases ho:o.isSome with
 |false=>rfl
 |true=>exact absurd (h.1 ho) hp
theorem Ml{n:Nat}{v:EW}(hl:v.1.length≤1048576)(sQ:v.2.length≤1048576)(ht:∀x∈v.1,x.length≤1048576)(hn:2000000000≤n):∃r,oI n v=some r∧(r.2=0↔Mj v):=by
 rw[V9,af]
 split
 ·rename_i h;rw[bF]at h;exact⟨_,rfl,fun h=>(by cases h),fun h'=>by have:=h'.l;omega⟩
 rename_i h0;rw[bF]at h0;rcases dc (L:=fun k j s=>io n k ((),(),v.1,(v.1.length:Int),j,v,s,())) (len:=v.1.length) (Jy v) (ae5 v) (fun i=> .inl ((i:Int),130,())) (.inr ((),v,())) (by
  intro k j hj _;show(_∧io n (k+1) _=_)∨(_∧io n (k+1) _=_);rw[Bb,jK,Xd hj];simp only[aa];have hg:=Mi (k:=.str) (v:=.int .i64) rfl (x:=Ab v j) (Jy v j);have Ng:(∃p∈Jy v j,p.1=Ab v j)↔¬ ∀k,k<j→Ab v k≠Ab v j:=by
   constructor
   ·rintro⟨p,hp,h⟩ hk;obtain⟨q,hq,rfl⟩:=List.mem_map.1 hp;exact hk q (List.mem_range.1 hq) h
   ·intro h;apply Decidable.byContradiction;intro hc;exact h fun k hk he=>hc ⟨_,List.mem_map.2 ⟨k,List.mem_range.2 hk,rfl⟩,he⟩
  have hg:=hg.trans Ng;have hb:=ae6 (s:=Ab v j) (i:=j)
  by_cases hP:ae5 v j
  ·have e1:Option.isSome (JG (Ty.JS Ty.str) (Jy v j) (Ab v j))=false:=ae8 hg (fun h=>h hP.1);have e2:((Ab v j==([]:List UInt8))==((j:Int)==0))=true:=hb.2 hP.2.1;rw[e1,e2];have hp3:=hP.2.2;simp only[ba,av];rw[decide_eq_false (show ¬ ((((Ab v j).length:Nat):Int)>64)by omega)];simp only[aa];rw[aN];refine .inl ⟨hP,?_⟩;have hn:∀p∈Jy v j,p.1≠Ab v j:=by
    intro p hp;obtain⟨q,hq,rfl⟩:=List.mem_map.1 hp;exact hP.1 q (List.mem_range.1 hq)
   have e3:PA (Ty.JS Ty.str) (Jy v j) (Ab v j) (j:Int)=Jy v (j+1):=by
    rw[api];exact MM (k:=.str) (v:=.int .i64) rfl _ hn
   exact congrArg (fun s=>io n k ((),(),v.1,(v.1.length:Int),(j:Int)+1,v,s,())) e3
  ·refine .inr ⟨hP,?_⟩;have e4:∀a b c:Bool,(a=true∨b=false∨c=true)→av a (some true) (av (!b) (some true) (some c))=some true:=by
    intro a b c h;rcases h with rfl |rfl |rfl
    ·rfl
    ·cases a<;>rfl
    ·cases a<;>cases b<;>rfl
   rw[e4 _ _ _ ?_]
   ·rfl
   ·by_cases h1:∀k,k<j→Ab v k≠Ab v j
    ·by_cases h2:Ab v j=[]↔j=0
     ·right;right;rw[bF];have h3:¬ (Ab v j).length≤64:=fun h3=>hP ⟨h1,h2,h3⟩;omega
     ·right;left;rw[←eK];exact fun h=>h2 (hb.1 h)
    ·left;exact hg.2 h1) (by
  intro k;show io n (k+1) _=_;rw[Bb,sS]) n (by omega)with⟨h1,h2⟩|⟨j,h1,h2,h3,h4⟩
 case inr=>
  rw[show([]:List (List UInt8×Int))=Jy v 0 from rfl,h4];exact⟨_,rfl,fun h=>(by cases h),fun h=>absurd (h.t j h1) h3⟩
 rw[show([]:List (List UInt8×Int))=Jy v 0 from rfl,h2];simp only[aa,cY,af,bF]
 split
 ·exact⟨_,rfl,fun h=>(by cases h),fun h'=>by have:=h'.l2;omega⟩
 split
 ·exact⟨_,rfl,fun h=>(by cases h),fun h'=>by have:=h'.m;omega⟩
 rcases dc (L:=fun k j s=>gy n k ((),(),v.2,(v.2.length:Int),j,v,s,())) (len:=v.2.length) (Gt v) (am3 v) (fun i=> .inl ((i:Int),131,())) (.inr ()) (by
  intro k j hj _;show(_∧gy n (k+1) _=_)∨(_∧gy n (k+1) _=_);rw[yC,jK,apf hj];simp only[aa];obtain⟨b,e,h⟩:=ae7 (n:=n) (v:=v) (i:=j) ht (f:=nD n) (fun x=>apg);rw[e];have hg:=Mi (k:=.pair (.int .i64) (.int .i64)) (v:=.int .i64) rfl (x:=((uS v j).1,(uS v j).2.1)) (Gt v j);have Ng:(∃p∈Gt v j,p.1=((uS v j).1,(uS v j).2.1))↔¬ ∀k,k<j→¬ ((uS v k).1=(uS v j).1∧(uS v k).2.1=(uS v j).2.1):=by
   constructor
   ·rintro⟨p,hp,h⟩ hk;obtain⟨q,hq,rfl⟩:=List.mem_map.1 hp;exact hk q (List.mem_range.1 hq) ⟨(Prod.mk.inj h).1,(Prod.mk.inj h).2⟩
   ·intro h;apply Decidable.byContradiction;intro hc;exact h fun k hk he=>hc ⟨_,List.mem_map.2 ⟨k,List.mem_range.2 hk,rfl⟩,Prod.ext he.1 he.2⟩
  have hg:=hg.trans Ng
  by_cases hP:am3 v j
  ·have e1:Option.isSome (JG (Ty.JS (Ty.pair (Ty.int bw) (Ty.int bw))) (Gt v j) ((uS v j).1,(uS v j).2.1))=false:=ae8 hg (fun h=>h hP.2);rw[e1,h.2 hP.1];simp only[av,aa];rw[aN];refine .inl ⟨hP,?_⟩;have hn:∀p∈Gt v j,p.1≠((uS v j).1,(uS v j).2.1):=by
    intro p hp h;obtain⟨q,hq,rfl⟩:=List.mem_map.1 hp;exact hP.2 q (List.mem_range.1 hq) ⟨(Prod.mk.inj h).1,(Prod.mk.inj h).2⟩
   have e3:PA (Ty.JS (Ty.pair (Ty.int bw) (Ty.int bw))) (Gt v j) ((uS v j).1,(uS v j).2.1) (j:Int)=Gt v (j+1):=by
    rw[apj];exact MM (k:=.pair (.int .i64) (.int .i64)) (v:=.int .i64) rfl _ hn
   exact congrArg (fun s=>gy n k ((),(),v.2,(v.2.length:Int),(j:Int)+1,v,s,())) e3
  ·refine .inr ⟨hP,?_⟩
   by_cases h1:∀k,k<j→¬ ((uS v k).1=(uS v j).1∧(uS v k).2.1=(uS v j).2.1)
   ·have hb:b=true:=by
     cases b with
     |true=>rfl
     |false=>exact absurd ⟨h.1 rfl,h1⟩ hP
    rw[hb,eP];simp[av]
   ·have e1:Option.isSome (JG (Ty.JS (Ty.pair (Ty.int bw) (Ty.int bw))) (Gt v j) ((uS v j).1,(uS v j).2.1))=true:=hg.2 h1;rw[e1];rfl) (by
  intro k;show gy n (k+1) _=_;rw[yC,sS]) n (by omega)with⟨h5,h6⟩|⟨j,h5,h6,h7,h8⟩
 case inr=>
  rw[show([]:List ((Int×Int)×Int))=Gt v 0 from rfl,h8];exact⟨_,rfl,fun h=>(by cases h),fun h=>absurd (h.ms j h5) h7⟩
 rw[show([]:List ((Int×Int)×Int))=Gt v 0 from rfl,h6];exact⟨_,rfl,fun _=>⟨by omega,h1,by omega,by omega,h5⟩,fun _=>rfl⟩
theorem aBx{l:List Int}(h:bc l)(i:Nat):0≤gH (fun i=>jm (l.getD i 0)) i∧gH (fun i=>jm (l.getD i 0)) i≤i*128:=by
 refine Gp _ fun j _=> ?_;have h1:=h.at j;unfold jm
 split<;>omega
theorem am6{n:Nat}{w:List Int}{r c:Nat}(hw:w.length=r*c)(hb:r*c≤1048576)(hc:1≤c)(h8:bc w)(hn:2000000000≤n):wR n (w,(c:Int))=some (dX (fun j=>gI (eU w c j)) r,0):=by
 have hr:r≤1048576:=by
  have:=cB r (show 0<c by omega);omega
 have hm:w.length % c=0:=by rw[hw];exact Nat.mul_mod_left _ _
 have hd:w.length/c=r:=by rw[hw];exact Nat.mul_div_cancel _ (by omega)
 have ay1:JO w (c:Int)=0:=by
  unfold JO;rw[gG,gG]
 rw[WB,HY,ay1];simp only[aa,af];rw[if_neg (by simp)];have hL:=aX (L:=fun k j s=>lc n k (w,(c:Int),s,j*(c:Int),())) (len:=r) (r:=(dX (fun j=>gI (eU w c j)) r,())) (fun j=>dX (fun j=>gI (eU w c j)) j) ?_ ?_ n (by omega)
 ·rw[Int.zero_mul,eS]at hL;rw[hL];rfl
 ·intro k j hj;have hjw:j<w.length/c:=by rw[hd];exact hj
  have hlen:=MU hm hjw;have hrl:=uJ hm hjw;have h8r:bc (eU w c j):=h8.sub _ _;show lc n (k+1) _=_;rw[show(j:Int)*(c:Int)=((j*c:Nat):Int)by simp];rw[BB,jK,aN (x:=((j*c:Nat):Int)+(c:Int)),abQ hm hjw];simp only[aa];have hI:=aX (L:=fun k i s=>iR n k (w,(c:Int),dX (fun j=>gI (eU w c j)) j,((j*c:Nat):Int),s,eU w c j,(((eU w c j).length:Nat):Int),i,())) (len:=(eU w c j).length) (r:=(w,(c:Int),dX (fun j=>gI (eU w c j)) j,((j*c:Nat):Int),gI (eU w c j),())) (fun i=>gH (fun i=>jm ((eU w c j).getD i 0)) i) ?_ ?_ n (by omega)
  ·rw[show gH (fun i=>jm ((eU w c j).getD i 0)) 0=0 from rfl]at hI;rw[hI];simp only[aa];rw[fL _ (by unfold room;omega) (by unfold room;omega)];simp only[aa];rw[aN,show((j*c:Nat):Int)+(c:Int)=((j:Int)+1)*(c:Int)by rw[Int.add_mul];simp]
  ·intro k i hi;have h1:=h8r.at i;have h2:=aBx h8r i;show iR n (k+1) _=_;rw[yQ,jK,bm hi 0];simp only[aa,af,bF];rw[aN (x:=(eU w c j).getD i 0)];show _=iR n k (w,(c:Int),_,_,gH (fun i=>jm ((eU w c j).getD i 0)) i+jm ((eU w c j).getD i 0),_,_,_,());unfold jm
   split
   ·simp only[aa];rw[aN (x:=(i:Int)+1),aN (by unfold jm at h2;omega) (by unfold jm at h2;omega)];rfl
   ·simp only[aa];rw[aN (x:=(i:Int)+1),aN (by unfold jm at h2;omega) (by unfold jm at h2;omega)]
  ·intro k;show iR n (k+1) _=_;rw[yQ,af,if_neg (by simp)];rfl
 ·intro k;show lc n (k+1) _=_;rw[BB,af,if_neg (by rw[bF,hw];simp)]
structure MOk (m:Mod) (D H half C Hd V L:Nat):Prop where
 uX:Mh D H half C Hd
 v:m.1.1=(V:Int)
 c:m.1.2.1=(C:Int)
 d:m.1.2.2.1=(D:Int)
 h:m.1.2.2.2.1=(H:Int)
 l:m.1.2.2.2.2.1=(L:Int)
 hd:m.1.2.2.2.2.2=(Hd:Int)
 v2:2≤V∧V≤512
 l8:1≤L∧L≤8
 e:m.2.2.1.length=V*D
 es:0≤m.2.2.2.1∧m.2.2.2.1≤24
 cos:m.2.2.2.2.1.length=C*half
 sin:m.2.2.2.2.2.1.length=C*half
 bs:m.2.2.2.2.2.2.1.length=L
 b:∀b∈m.2.2.2.2.2.2.1,Jw D Hd b
 be:m.2.2.2.2.2.2.2.1.length=256
 g:m.2.2.2.2.2.2.2.2.1.length=D
 u:m.2.2.2.2.2.2.2.2.2.1.length=V*D
 ls:0≤m.2.2.2.2.2.2.2.2.2.2∧m.2.2.2.2.2.2.2.2.2.2≤31
theorem aqr{s:Shp}(h:DW s):∃D H half C Hd V L:Nat,Mh D H half C Hd∧s.1=(V:Int)∧s.2.1=(C:Int)∧s.2.2.1=(D:Int)∧s.2.2.2.1=(H:Int)∧s.2.2.2.2.1=(L:Int)∧s.2.2.2.2.2=(Hd:Int)∧(2≤V∧V≤512)∧(1≤L∧L≤8)∧s.2.2.1/s.2.2.2.1/2=(half:Int):=by
 obtain⟨c1,c2,c3,c4,c5,c6,c7,c8⟩:=h;obtain⟨D,hD⟩:∃D:Nat,s.2.2.1=(D:Int):=⟨s.2.2.1.toNat,by omega⟩;obtain⟨H,hH⟩:∃H:Nat,s.2.2.2.1=(H:Int):=⟨s.2.2.2.1.toNat,by omega⟩;obtain⟨C,hC⟩:∃C:Nat,s.2.1=(C:Int):=⟨s.2.1.toNat,by omega⟩;obtain⟨V,hV⟩:∃V:Nat,s.1=(V:Int):=⟨s.1.toNat,by omega⟩;obtain⟨L,hL⟩:∃L:Nat,s.2.2.2.2.1=(L:Int):=⟨s.2.2.2.2.1.toNat,by omega⟩;obtain⟨Hd,hHd⟩:∃Hd:Nat,s.2.2.2.2.2=(Hd:Int):=⟨s.2.2.2.2.2.toNat,by omega⟩;rw[hD,hH]at c7 c8;have d7:D % H=0:=by omega
 have d8:D/H % 2=0:=by omega
 have hDH:D=H*(D/H):=(Nat.mul_div_cancel' (Nat.dvd_of_mod_eq_zero d7)).symm;have hpos:D/H≠0:=by
  intro h0;rw[h0]at hDH;omega
 have h2:D/H=2*(D/H/2):=by omega
 refine⟨D,H,D/H/2,C,Hd,V,L,⟨by rw[←h2];exact hDH,by omega,by omega,by omega,by omega,by omega,by omega,by omega⟩,hV,hC,hD,hH,hL,hHd,by omega,by omega,?_⟩;rw[hD,hH];simp
theorem qC{α:Type}{l:List α}{i:Nat}(h:i<l.length)(d:α):idx l (i:Int)=some (l.getD i d):=by
 rw[bj h];simp[h]
def atI(l:List Int):Prop:=∀x∈l,0≤x∧x≤31
theorem Un{l:List Int}:atI l↔∀i,i<l.length→0≤l.getD i 0∧l.getD i 0≤31:=by
 constructor
 ·intro h i hi;have:=h _ (ak hi);simpa[hi]using this
 ·intro h x hx;obtain⟨i,hi,rfl⟩:=aL hx;have:=h i hi;simpa[hi]using this
theorem akP{n:Nat}{l:List Int}(hl:l.length≤1000000)(hn:2000000000≤n):
  (atI l∧fY n n (l,(l.length:Int),0,())=some (.inr ()))∨(¬ atI l∧fY n n (l,(l.length:Int),0,())=some (.inl (162,()))):=by
 rcases dc (L:=fun k j (_:Unit)=>fY n k (l,(l.length:Int),j,())) (len:=l.length) (fun _=>()) (fun i=>0≤l.getD i 0∧l.getD i 0≤31) (fun _=> .inl (162,())) (.inr ()) (by
  intro k j hj _;show(_∧fY n (k+1) _=_)∨(_∧fY n (k+1) _=_);rw[BA,jK,qC hj 0];simp only[aa];rw[zX];simp only[aa]
  by_cases c:0≤l.getD j 0∧l.getD j 0≤31
  ·rw[decide_eq_true c,aN];exact .inl ⟨c,rfl⟩
  ·rw[decide_eq_false c];exact .inr ⟨c,rfl⟩) (by
  intro k;show fY n (k+1) _=_;rw[BA,sS]) n (by omega)with⟨h1,h2⟩|⟨j,h1,h2,h3,h4⟩
 ·exact .inl ⟨Un.2 h1,h2⟩
 ·exact .inr ⟨fun h=>h3 (Un.1 h j h1),h4⟩
theorem Uo{n:Nat}{l:List Int}(hl:l.length≤1000000)(hn:2000000000≤n):∃b,kp n l=some b∧(b=true↔atI l):=by
 rw[Td,mq,nX];rcases dc (L:=fun k j (_:Unit)=>bD n k (l,(),(l.length:Int),j,())) (len:=l.length) (fun _=>()) (fun i=>0≤l.getD i 0∧l.getD i 0≤31) (fun i=> .inl ((i:Int),())) (.inr ()) (by
  intro k j hj _;show(_∧bD n (k+1) _=_)∨(_∧bD n (k+1) _=_);rw[gE,jK,qC hj 0];simp only[aa];rw[Nj,EX];simp only[aa]
  by_cases c:0≤l.getD j 0∧l.getD j 0≤31
  ·rw[decide_eq_true c,aN];exact .inl ⟨c,rfl⟩
  ·rw[decide_eq_false c];exact .inr ⟨c,rfl⟩) (by
  intro k;show bD n (k+1) _=_;rw[gE,sS]) n (by omega)with⟨h1,h2⟩|⟨j,h1,h2,h3,h4⟩
 ·rw[h2];exact⟨true,rfl,fun _=>Un.2 h1,fun _=>rfl⟩
 ·rw[h4];simp only[aa,cY];rw[decide_eq_true (show(j:Int)≥0 by omega)];exact⟨false,rfl,fun h=>(by cases h),fun h=>absurd (Un.1 h j h1) h3⟩
theorem QI{n:Nat}{d:Int}{l:List (List Int)}(hl:l.length≤1000000)(hn:2000000000≤n):∃b,jn n (d,l)=some b∧(b=true↔∀x∈l,(x.length:Int)=d):=by
 rw[LR];rcases dc (L:=fun k j (_:Unit)=>fJ n k (d,l,(l.length:Int),j,())) (len:=l.length) (fun _=>()) (fun i=>((l.getD i []).length:Int)=d) (fun _=> .inl (false,())) (.inr ()) (by
  intro k j hj _;show(_∧fJ n (k+1) _=_)∨(_∧fJ n (k+1) _=_);rw[uF,jK,qC hj []];simp only[aa,af,bne_iff_ne,ne_eq]
  split
  ·rename_i c;exact .inr ⟨c,rfl⟩
  ·rename_i c;rw[aN];exact .inl ⟨Decidable.not_not.1 c,rfl⟩) (by
  intro k;show fJ n (k+1) _=_;rw[uF,sS]) n (by omega)with⟨h1,h2⟩|⟨j,h1,h2,h3,h4⟩
 ·rw[h2];refine⟨true,rfl,fun _ x hx=> ?_,fun _=>rfl⟩;obtain⟨i,hi,rfl⟩:=aL hx;have:=h1 i hi;simpa[hi]using this
 ·rw[h4];refine⟨false,rfl,fun h=>(by cases h),fun h=>absurd ?_ h3⟩;have:=h _ (ak h1);simpa[h1]using this
theorem aqs{D Hd:Nat}{b:GI}:Jw D Hd b↔(b.1.length=D∧b.2.2.2.2.2.1.length=D)∧(b.2.1.length=D*D∧b.2.2.1.length=D*D∧b.2.2.2.1.length=D*D∧b.2.2.2.2.1.length=D*D)∧
  (b.2.2.2.2.2.2.2.2.2.2.2.1.length=Hd*D∧b.2.2.2.2.2.2.2.2.2.2.2.2.1.length=Hd*D∧b.2.2.2.2.2.2.2.2.2.2.2.2.2.1.length=D*Hd)∧
  atI [b.2.2.2.2.2.2.1,b.2.2.2.2.2.2.2.1,b.2.2.2.2.2.2.2.2.1,b.2.2.2.2.2.2.2.2.2.1,b.2.2.2.2.2.2.2.2.2.2.1,b.2.2.2.2.2.2.2.2.2.2.2.2.2.2.1,b.2.2.2.2.2.2.2.2.2.2.2.2.2.2.2.1,b.2.2.2.2.2.2.2.2.2.2.2.2.2.2.2.2]:=by
 constructor
 ·intro h;refine⟨⟨h.g1,h.g2⟩,⟨h.q,h.k,h.v,h.o⟩,⟨h.m1,h.m2,h.m3⟩,?_⟩;intro x hx;simp only[List.mem_cons,List.not_mem_nil,or_false]at hx;rcases hx with rfl |rfl |rfl |rfl |rfl |rfl |rfl |rfl
  ·exact h.qs
  ·exact h.ks
  ·exact h.vs
  ·exact h.os
  ·exact h.ss
  ·exact h.gs
  ·exact h.us
  ·exact h.ds
 ·rintro⟨⟨h1,h2⟩,⟨h3,h4,h5,h6⟩,⟨h7,h8,h9⟩,h⟩;exact⟨h1,h3,h4,h5,h6,h2,h7,h8,h9,h _ (by simp),h _ (by simp),h _ (by simp),h _ (by simp),h _ (by simp),h _ (by simp),h _ (by simp),h _ (by simp)⟩
theorem am7{n:Nat}{s:Shp}{b:GI}{D Hd:Nat}(hD:s.2.2.1=(D:Int))(hH:s.2.2.2.2.2=(Hd:Int))(hD2:D≤64)(hH2:Hd≤256)(hn:2000000000≤n):∃r,wN n (s,b)=some r∧(r=0↔Jw D Hd b):=by
 have m1:D*D≤64*64:=bK hD2 hD2;have m2:Hd*D≤256*64:=bK hH2 hD2;have m3:D*Hd≤64*256:=bK hD2 hH2;have e1:ap .i64 ((D:Int)*(D:Int))=((D*D:Nat):Int):=by rw[show(D:Int)*(D:Int)=((D*D:Nat):Int)by simp];exact aN
 have e2:ap .i64 ((Hd:Int)*(D:Int))=((Hd*D:Nat):Int):=by rw[show(Hd:Int)*(D:Int)=((Hd*D:Nat):Int)by simp];exact aN
 have e3:ap .i64 ((D:Int)*(Hd:Int))=((D*Hd:Nat):Int):=by rw[show(D:Int)*(Hd:Int)=((D*Hd:Nat):Int)by simp];exact aN
 rw[Wz,hD,hH,e1,e2,e3,aqs];simp only[eP,aa]
 by_cases c1:(b.1.length=D∧b.2.2.2.2.2.1.length=D)∧(b.2.1.length=D*D∧b.2.2.1.length=D*D∧b.2.2.2.1.length=D*D∧b.2.2.2.2.1.length=D*D)
 case neg=>
  refine⟨161,?_,fun h=>(by cases h),fun h=>absurd ⟨h.1,h.2.1⟩ c1⟩;rw[af,if_pos];simp only[aB,bne_iff_ne,ne_eq];omega
 rw[af,if_neg (by simp only[aB,bne_iff_ne,ne_eq];omega)]
 by_cases c2:(b.2.2.2.2.2.2.2.2.2.2.2.1.length=Hd*D∧b.2.2.2.2.2.2.2.2.2.2.2.2.1.length=Hd*D∧b.2.2.2.2.2.2.2.2.2.2.2.2.2.1.length=D*Hd)
 case neg=>
  refine⟨161,?_,fun h=>(by cases h),fun h=>absurd h.2.2.1 c2⟩;rw[af,if_pos];simp only[aB,bne_iff_ne,ne_eq];omega
 rw[af,if_neg (by simp only[aB,bne_iff_ne,ne_eq];omega)];rcases akP (n:=n) (l:=[b.2.2.2.2.2.2.1,b.2.2.2.2.2.2.2.1,b.2.2.2.2.2.2.2.2.1,b.2.2.2.2.2.2.2.2.2.1,b.2.2.2.2.2.2.2.2.2.2.1,b.2.2.2.2.2.2.2.2.2.2.2.2.2.2.1,b.2.2.2.2.2.2.2.2.2.2.2.2.2.2.2.1,b.2.2.2.2.2.2.2.2.2.2.2.2.2.2.2.2]) (by simp) hn with⟨h1,h2⟩|⟨h1,h2⟩
 ·rw[h2];exact⟨0,rfl,fun _=>⟨c1.1,c1.2,c2,h1⟩,fun _=>rfl⟩
 ·rw[h2];exact⟨162,rfl,fun h=>(by cases h),fun h=>absurd h.2.2.2 h1⟩
theorem n8{b:Bool}{p:Prop}(h:b=true↔p):(p∧b=true)∨(¬ p∧b=false):=by
 cases b with
 |true=>exact .inl ⟨h.1 rfl,rfl⟩
 |false=>exact .inr ⟨fun hp=>(by have:=h.2 hp;cases this),rfl⟩
theorem am8{n:Nat}{s:Shp}{b:GI}{D Hd:Nat}(hD:s.2.2.1=(D:Int))(hH:s.2.2.2.2.2=(Hd:Int))(hD2:D≤64)(hH2:Hd≤256)(hn:2000000000≤n):∃r,wq n (s,b)=some r∧(r=0↔Jw D Hd b):=by
 have m1:D*D≤64*64:=bK hD2 hD2;have m3:D*Hd≤64*256:=bK hD2 hH2;have e1:ap .i64 ((D:Int)*(D:Int))=((D*D:Nat):Int):=by rw[show(D:Int)*(D:Int)=((D*D:Nat):Int)by simp];exact aN
 have e3:ap .i64 ((D:Int)*(Hd:Int))=((D*Hd:Nat):Int):=by rw[show(D:Int)*(Hd:Int)=((D*Hd:Nat):Int)by simp];exact aN
 rw[Wb,hD,hH,e1,e3,aqs,Nat.mul_comm Hd D];obtain⟨b1,h1,i1⟩:=QI (n:=n) (d:=(D:Int)) (l:=[b.1,b.2.2.2.2.2.1]) (by simp) hn;obtain⟨b2,h2,i2⟩:=QI (n:=n) (d:=((D*D:Nat):Int)) (l:=[b.2.1,b.2.2.1,b.2.2.2.1,b.2.2.2.2.1]) (by simp) hn;obtain⟨b3,h3,i3⟩:=QI (n:=n) (d:=((D*Hd:Nat):Int)) (l:=[b.2.2.2.2.2.2.2.2.2.2.2.1,b.2.2.2.2.2.2.2.2.2.2.2.2.1,b.2.2.2.2.2.2.2.2.2.2.2.2.2.1]) (by simp) hn;obtain⟨b4,h4,i4⟩:=Uo (n:=n) (l:=[b.2.2.2.2.2.2.1,b.2.2.2.2.2.2.2.1,b.2.2.2.2.2.2.2.2.1,b.2.2.2.2.2.2.2.2.2.1,b.2.2.2.2.2.2.2.2.2.2.1,b.2.2.2.2.2.2.2.2.2.2.2.2.2.2.1,b.2.2.2.2.2.2.2.2.2.2.2.2.2.2.2.1,b.2.2.2.2.2.2.2.2.2.2.2.2.2.2.2.2]) (by simp) hn;simp only[List.mem_cons,List.not_mem_nil,or_false,forall_eq_or_imp,forall_eq]at i1 i2 i3;rw[h1];simp only[aa];rcases n8 i1 with⟨p1,rfl⟩|⟨p1,rfl⟩
 case inr=>exact⟨161,rfl,fun h=>(by cases h),fun h=>absurd ⟨by omega,by omega⟩ p1⟩
 rw[h2];simp only[aa,ba,cg];rcases n8 i2 with⟨p2,rfl⟩|⟨p2,rfl⟩
 case inr=>exact⟨161,rfl,fun h=>(by cases h),fun h=>absurd ⟨by omega,by omega,by omega,by omega⟩ p2⟩
 rw[h3];simp only[aa,ba,cg];rcases n8 i3 with⟨p3,rfl⟩|⟨p3,rfl⟩
 case inr=>exact⟨161,rfl,fun h=>(by cases h),fun h=>absurd ⟨by omega,by omega,by omega⟩ p3⟩
 rw[h4];simp only[aa,ba,cg];rcases n8 i4 with⟨p4,rfl⟩|⟨p4,rfl⟩
 case inr=>exact⟨162,rfl,fun h=>(by cases h),fun h=>absurd h.2.2.2 p4⟩
 exact⟨0,rfl,fun _=>⟨⟨by omega,by omega⟩,⟨by omega,by omega,by omega,by omega⟩,⟨by omega,by omega,by omega⟩,p4⟩,fun _=>rfl⟩
def abU(m:Mod):Prop:=DW m.1∧Mj m.2.1∧(m.2.1.1.length:Int)=m.1.1∧∃D H half C Hd V L,MOk m D H half C Hd V L
theorem Up{a b c:Nat}(h:a*b≤c)(hc:c≤1000000000):ap .i64 ((a:Int)*(b:Int))=((a*b:Nat):Int):=by
 rw[show(a:Int)*(b:Int)=((a*b:Nat):Int)by simp];exact aN
theorem aiu{m:Mod}{D H half C Hd V L:Nat}(hhf:m.1.2.2.1/m.1.2.2.2.1/2=(half:Int))(h1:m.1.1=(V:Int))(h2:m.1.2.1=(C:Int))(h3:m.1.2.2.1=(D:Int))(h4:m.1.2.2.2.1=(H:Int))(h5:m.1.2.2.2.2.1=(L:Int))(h6:m.1.2.2.2.2.2=(Hd:Int))
  (h:∃D H half C Hd V L,MOk m D H half C Hd V L):MOk m D H half C Hd V L:=by
 obtain⟨D',H',axj,C',Hd',V',L',ho⟩:=h;have a1:=ho.v;have a2:=ho.c;have a3:=ho.d;have a4:=ho.h;have a5:=ho.l;have a6:=ho.hd;have e1:V'=V:=by omega
 have e2:C'=C:=by omega
 have e3:D'=D:=by omega
 have e4:H'=H:=by omega
 have e5:L'=L:=by omega
 have e6:Hd'=Hd:=by omega
 have e7:axj=half:=by
  have h7:D'/H'=2*axj:=by rw[ho.uX.d];exact Nat.mul_div_cancel_left _ ho.uX.hh
  rw[a3,a4]at hhf;have h8:(D':Int)/(H':Int)/2=((D'/H'/2:Nat):Int):=by simp
  rw[h8,h7]at hhf;omega
 subst e1 e2 e3 e4 e5 e6 e7;exact ho
theorem am9{n:Nat}{m:Mod}(hm:ahh m)(hn:2000000000≤n):∃r,wP n m=some r∧(r.2.2=0↔abU m):=by
 have hbs:=hm.bs;obtain⟨vr,hvr,atJ⟩:=Mk (n:=n) (v:=m.2.1) hm.t hm.ms hm.tt hn;rw[WA,Yy];simp only[aa,af,bne_iff_ne,ne_eq]
 by_cases hS:DW m.1
 case neg=>
  rw[Ca hS,if_pos (by decide)];exact⟨_,rfl,fun h=>(by cases h),fun h=>absurd h.1 hS⟩
 rw[MZ hS,if_neg (by simp),hvr];simp only[aa]
 by_cases c1:¬ vr.2=0
 ·rw[if_pos c1];exact⟨_,rfl,fun h=>absurd h c1,fun h=>absurd (atJ.2 h.2.1) c1⟩
 rw[if_neg c1];have akQ:=atJ.1 (Decidable.not_not.1 c1);have ana:=apd (n:=n) hS;obtain⟨D,H,half,C,Hd,V,L,ae9,hV,hC,hD,hH,hL,hHd,hV2,hL8,hhf⟩:=aqr hS;rw[hhf]at ana;have huq:=aiu (m:=m) hhf hV hC hD hH hL hHd;have g1:=ae9.dm;have g2:=ae9.hm;have g3:=ae9.cm;have g4:=ae9.hle;have m1:V*D≤512*64:=bK hV2.2 g1;have m2:C*half≤512*64:=bK g3 (by omega);have e1:=Up m1 (by omega);have e2:=Up m2 (by omega)
 by_cases c2:¬ (m.2.1.1.length:Int)=m.1.1
 ·rw[if_pos c2];exact⟨_,rfl,fun h=>(by cases h),fun h=>absurd h.2.2.1 c2⟩
 rw[if_neg c2,hV,hD,e1]
 by_cases c3:¬ (m.2.2.1.length:Int)=((V*D:Nat):Int)
 ·rw[if_pos c3];exact⟨_,rfl,fun h=>(by cases h),fun h=>absurd (by rw[(huq h.2.2.2).e]) c3⟩
 rw[if_neg c3,zX];simp only[aa]
 by_cases c4:¬ (0≤m.2.2.2.1∧m.2.2.2.1≤24)
 ·rw[if_pos (by simp only[aW,decide_eq_false_iff_not];exact c4)];exact⟨_,rfl,fun h=>(by cases h),fun h=>absurd (huq h.2.2.2).es c4⟩
 have c4:=Decidable.not_not.1 c4;rw[if_neg (by simp only[aW,decide_eq_false_iff_not];exact fun h=>h c4)];rcases dc (L:=fun k j (_:Unit)=>iP n k ((),(),[m.2.2.2.2.1,m.2.2.2.2.2.1],(([m.2.2.2.2.1,m.2.2.2.2.2.1].length:Nat):Int),j,m,m.1,())) (len:=2) (fun _=>())
  (fun i=>(([m.2.2.2.2.1,m.2.2.2.2.2.1]:List (List Int)).getD i []).length=C*half) (fun i=> .inl (4,(i:Int),161,())) (.inr ((),(),m,m.1,())) (by
  intro k j hj _;show(_∧iP n (k+1) _=_)∨(_∧iP n (k+1) _=_);rw[yO,af,if_pos (by rw[bF];simp only[aZ,dz];omega),qC (show j<([m.2.2.2.2.1,m.2.2.2.2.2.1]:List (List Int)).length from hj) []];simp only[aa,af,bne_iff_ne,ne_eq];rw[ana];simp only[aa];rw[hC,e2]
  by_cases d1:¬ (((([m.2.2.2.2.1,m.2.2.2.2.2.1]:List (List Int)).getD j []).length:Nat):Int)=((C*half:Nat):Int)
  ·rw[if_pos d1];exact .inr ⟨by omega,rfl⟩
  ·rw[if_neg d1,aN];exact .inl ⟨by omega,rfl⟩) (by
  intro k;show iP n (k+1) _=_;rw[yO,af,if_neg (by simp)]) n (by omega)with⟨h1,h2⟩|⟨j,h1,h2,h3,h4⟩
 case inr=>
  rw[h4];refine⟨_,rfl,fun h=>(by cases h),fun h=>absurd ?_ h3⟩;have ho:=huq h.2.2.2
  match j,h1 with
  |0,_=>exact ho.cos
  |1,_=>exact ho.sin
 rw[h2];simp only[aa,cY];have aDT:m.2.2.2.2.1.length=C*half:=h1 0 (by omega);have aDU:m.2.2.2.2.2.1.length=C*half:=h1 1 (by omega);rcases dc (L:=fun k j (_:Unit)=>(iQ n k ((),(),m.2.2.2.2.2.2.1,(m.2.2.2.2.2.2.1.length:Int),j,m,m.1,())).map (fun q=>match q with |.inl q=>Sum.inl (decide (q.2.2.1=0))|.inr q=> .inr q)) (len:=m.2.2.2.2.2.2.1.length) (fun _=>())
  (fun i=>i<L∧∀(h:i<m.2.2.2.2.2.2.1.length),Jw D Hd m.2.2.2.2.2.2.1[i]) (fun _=> .inl false) (.inr ((),(),m,m.1,())) (by
  intro k j hj _;show(_∧Option.map _ (iQ n (k+1) _)=_)∨(_∧Option.map _ (iQ n (k+1) _)=_);obtain⟨r,hr,hr2⟩:=am7 (n:=n) (s:=m.1) (b:=m.2.2.2.2.2.2.1[j]) (D:=D) (Hd:=Hd) hD hHd g1 g2 hn;rw[yP,jK,bj hj];simp only[aa,af,bne_iff_ne,ne_eq,bF];rw[hL]
  by_cases d1:(j:Int)≥(L:Int)
  ·rw[if_pos d1];exact .inr ⟨fun h=>absurd h.1 (by omega),rfl⟩
  rw[if_neg d1,hr];simp only[aa]
  by_cases d2:¬ r=0
  ·rw[if_pos d2];exact .inr ⟨fun h=>absurd (hr2.2 (h.2 hj)) d2,by simp[d2]⟩
  ·rw[if_neg d2,aN];exact .inl ⟨⟨by omega,fun _=>hr2.1 (Decidable.not_not.1 d2)⟩,rfl⟩) (by
  intro k;show Option.map _ (iQ n (k+1) _)=_;rw[yP,af,if_neg (by simp)];rfl) n (by omega)with⟨h3,h4⟩|⟨j,h3,h4,h5,h6⟩
 case inr=>
  obtain⟨q,hq,Nt⟩:=Option.map_eq_some_iff.1 h6;rw[hq]
  match q,Nt with
  |.inl q,Nt=>
   have hz:¬ q.2.2.1=0:=by simpa using Nt
   refine⟨_,rfl,fun h=>absurd h hz,fun h=>absurd ⟨?_,fun hj=> ?_⟩ h5⟩
   ·have:=(huq h.2.2.2).bs;omega
   ·exact(huq h.2.2.2).b _ (ak hj)
  |.inr q,Nt=>cases Nt
 obtain⟨q,hq,Nt⟩:=Option.map_eq_some_iff.1 h4;rw[hq]
 match q,Nt with
 |.inl q,Nt=>cases Nt
 |.inr q,Nt=>
 have Nt:q=((),(),m,m.1,()):=by simpa using Nt
 subst Nt;simp only[aa];rw[hL,hD,hV,e1];simp only[bF]
 by_cases c5:(m.2.2.2.2.2.2.1.length:Int)<(L:Int)
 ·rw[if_pos c5];exact⟨_,rfl,fun h=>(by cases h),fun h=>(by have:=(huq h.2.2.2).bs;omega)⟩
 rw[if_neg c5]
 by_cases c6:¬ (m.2.2.2.2.2.2.2.1.length:Int)=256
 ·rw[if_pos c6];exact⟨_,rfl,fun h=>(by cases h),fun h=>(by have:=(huq h.2.2.2).be;omega)⟩
 rw[if_neg c6]
 by_cases c7:¬ (m.2.2.2.2.2.2.2.2.1.length:Int)=(D:Int)
 ·rw[if_pos c7];exact⟨_,rfl,fun h=>(by cases h),fun h=>(by have:=(huq h.2.2.2).g;omega)⟩
 rw[if_neg c7]
 by_cases c8:¬ (m.2.2.2.2.2.2.2.2.2.1.length:Int)=((V*D:Nat):Int)
 ·rw[if_pos c8];exact⟨_,rfl,fun h=>(by cases h),fun h=>(by have:=(huq h.2.2.2).u;omega)⟩
 rw[if_neg c8,zX];simp only[aa]
 by_cases c9:¬ (0≤m.2.2.2.2.2.2.2.2.2.2∧m.2.2.2.2.2.2.2.2.2.2≤31)
 ·rw[if_pos (by simp only[aW,decide_eq_false_iff_not];exact c9)];exact⟨_,rfl,fun h=>(by cases h),fun h=>absurd (huq h.2.2.2).ls c9⟩
 have c9:=Decidable.not_not.1 c9;rw[if_neg (by simp only[aW,decide_eq_false_iff_not];exact fun h=>h c9)];have hLl:m.2.2.2.2.2.2.1.length=L:=by
  by_cases h0:m.2.2.2.2.2.2.1.length=0
  ·omega
  ·have:=(h3 (m.2.2.2.2.2.2.1.length -1) (by omega)).1;omega
 refine⟨_,rfl,fun _=>⟨hS,akQ,Decidable.not_not.1 c2,D,H,half,C,Hd,V,L,ae9,hV,hC,hD,hH,hL,hHd,hV2,hL8,by omega,c4,aDT,aDU,hLl,fun b hb=> ?_,by omega,by omega,by omega,c9⟩,fun _=>rfl⟩;obtain⟨j,hj,rfl⟩:=aL hb;exact(h3 j hj).2 hj
end Go.Am.Pu
