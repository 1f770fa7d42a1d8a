import Derived.Test.YtllhngpojglipaaGreatDoorP11
set_option linter.unusedVariables false
set_option linter.unusedSimpArgs false
open Bool renaming and_eq_true→aj,not_eq_true'→aW,not_true→ba,or_eq_true→aB
open Int renaming toNat_natCast→ax
open List renaming getD_eq_getElem?_getD→aG,getElem?_eq_getElem→ah,getElem?_eq_none→bx,getElem_mem→ak,length_append→ag,length_cons→aZ,length_set→aP,length_singleton→fO,length_take→aC,mem_append_left→aR,mem_append_right→bo,mem_cons_of_mem→aF,mem_cons_self→aH,nil_append→bE,replicate→ao
open Nat renaming add_sub_cancel_left→eZ,le_refl→aA
open Option renaming bind_some→aa
namespace Go.Am.Pu
open Go Go.Am
theorem UB{α:Type}{H:List (Option α)}{i:Nat}{x:α}:fP H i=some x↔H[i]? =some (some x):=by
 unfold fP
 split
 ·rename_i y h;rw[h];simp
 ·rename_i h;constructor
  ·intro h';cases h'
  ·intro h';exact absurd h' (h x)
theorem E9{α:Type}{H:List (Option (List α))}{i a n:Nat}{l:List α}(h:sP H (some (i,a,n))=some l):∃w,fP H i=some w∧a+n≤w.length∧l=(w.drop a).take n:=by
 unfold sP at h;simp only at h
 split at h
 ·rename_i w hw
  split at h
  ·rename_i h2;exact⟨w,hw,h2,by simpa using h.symm⟩
  ·cases h
 ·cases h
theorem YK{α:Type}{H:List (Option (List α))}{x:Option (Nat×Nat×Nat)}{l:List α}(h:sP H x=some l):gsN x=(l.length:Int):=by
 match x with
 |none=>cases h;rfl
 |some (i,a,n)=>
  obtain⟨w,h1,h2,rfl⟩:=E9 h;show(n:Int)=_;simp;omega
theorem afh{α:Type}{H:List (Option (List α))}{l:List α}:sP (eR H l) (some (H.length,0,l.length))=some l:=by
 have h:fP (eR H l) H.length=some l:=by
  rw[UB];unfold eR;simp
 unfold sP;simp only[h];rw[lK];simp
theorem M6{α:Type}{b:Nat}{H:List (Option (List α))}{x:Option (Nat×Nat×Nat)}{l m:List α}(h:sP H x=some l)(hl:l.length+m.length≤10000000000)(hb:b≤1000):
  ∃H' y,gsA b H x m=some (H',y)∧sP H' y=some (l++m):=by
 match x with
 |none=>
  cases h;unfold gsA
  match m with
  |[]=>exact⟨H,none,rfl,rfl⟩
  |c::m=>
   simp only;rw[et (by simpa using hl) hb];exact⟨_,_,rfl,afh⟩
 |some (i,a,n)=>
  unfold gsA;simp only[h];rw[et hl hb];have:=afh (H:=H.set i none) (l:=l++m);rw[aP]at this;exact⟨_,_,rfl,this⟩
theorem at2{α:Type}{H:List (Option (List α))}{x:Option (Nat×Nat×Nat)}{l:List α}(h:sP H x=some l)(h1:1≤l.length):∃y,gsS x 1 (gsN x)=some y∧sP H y=some (l.drop 1):=by
 match x with
 |none=>cases h;simp at h1
 |some (i,a,n)=>
  obtain⟨w,h2,h3,rfl⟩:=E9 h;have hn:((w.drop a).take n).length=n:=by simp;omega
  rw[hn]at h1;unfold gsS;simp only;have hN:gsN (some (i,a,n))=(n:Int):=rfl;rw[hN,lK];refine⟨_,rfl,?_⟩;unfold sP;simp only[h2];have e:((n:Int) -1).toNat=n -1:=by omega
  rw[e,show(1:Int).toNat=1 from rfl,lK];rw[←List.drop_drop,List.drop_take]
theorem aiz{α:Type}{H:List (Option (List α))}{x:Option (Nat×Nat×Nat)}{l:List α}(h:sP H x=some l){i:Nat}(hi:i<l.length):
  ∃p w,x=some p∧ck (i:Int) p.2.2=some i∧fP H p.1=some w∧nth w (p.2.1+i)=some l[i]∧∀v,∃H',vn H p.1 (w.set (p.2.1+i) v)=some H'∧sP H' x=some (l.set i v):=by
 match x with
 |none=>cases h;simp at hi
 |some (o,a,n)=>
  obtain⟨w,h2,h3,rfl⟩:=E9 h;have hn:((w.drop a).take n).length=n:=by simp;omega
  rw[hn]at hi;refine⟨(o,a,n),w,rfl,ej hi,h2,?_,?_⟩
  ·unfold nth;show w[a+i]? =_
   rw[ah (by omega)];simp
  ·intro v;have h2':=UB.1 h2;refine⟨H.set o (some (w.set (a+i) v)),?_,?_⟩
   ·unfold vn;simp only[h2']
   ·unfold sP;have ho:o<H.length:=by
     apply Decidable.byContradiction;intro hc;rw[bx (by omega)]at h2'
     cases h2'
    have h4:fP (H.set o (some (w.set (a+i) v))) o=some (w.set (a+i) v):=by rw[UB];simp[ho]
    simp only[h4];rw[if_pos (by simpa using h3)];congr 1;rw[List.drop_set,gG,List.take_set,eZ]
abbrev Edg:=Int×Int×Int×Int
abbrev Gd:=List Bool×List Edg
def kX(g:Gd)(i:Nat):Edg:=g.2.getD i (0,0,0,0)
theorem QK{g:Gd}{i:Nat}(h:i<g.2.length):idx g.2 (i:Int)=some (kX g i):=qC h _
def oD(g:Gd)(x:Int):Prop:=0≤x∧x<(g.1.length:Int)
instance (g:Gd) (x:Int):Decidable (oD g x):=by unfold oD;exact inferInstance
theorem apr(m j:Nat):(ao m false).getD j false=false:=by
 by_cases h:j<m
 ·rw[aT (by simpa using h)];simp
 ·simp[Nat.le_of_not_lt h]
inductive Liv (g:Gd):Int→Prop where
 |acc {s:Nat} (h:g.1.getD s false=true):Liv g s
 |step {i:Nat} (hi:i<g.2.length) (h:Liv g (kX g i).2.2.2):Liv g (kX g i).1
def Cc(g:Gd):Prop:=∀i,i<g.2.length→oD g (kX g i).1∧oD g (kX g i).2.2.2
def zY(g:Gd)(b:List Bool):Prop:=b.length=g.1.length∧∀s:Nat,s<g.1.length→(b.getD s false=true↔Liv g (s:Int))
theorem anm{g:Gd}{out:List Bool}(hE:Cc g)(hl:out.length=g.1.length)(ha:∀s:Nat,g.1.getD s false=true→out.getD s false=true)
  (hs:∀s:Nat,out.getD s false=true→Liv g (s:Int)) (hc:∀i,i<g.2.length→out.getD (kX g i).2.2.2.toNat false=true→out.getD (kX g i).1.toNat false=true):zY g out:=by
 refine⟨hl,fun s _=>⟨hs s,fun h=> ?_⟩⟩;have key:∀x:Int,Liv g x→out.getD x.toNat false=true:=by
  intro x hx
  induction hx with
  |acc h=>rw[ax];exact ha _ h
  |step hi _ ih=>exact hc _ hi ih
 simpa using key s h
def cf(out:List Bool):Nat:=out.count false
theorem aps{out:List Bool}{i:Nat}(hi:i<out.length)(h:out.getD i false=false):cf (out.set i true)+1=cf out:=by
 unfold cf;rw[aT hi]at h;have h1:0<out.count false:=List.count_pos_iff.2 (by rw[←h];exact ak hi);rw[List.count_set hi,h];simp;omega
theorem aBM(out:List Bool):cf out≤out.length:=List.count_le_length
theorem il{out:List Bool}{i:Nat}{v:Bool}(hi:i<out.length)(j:Nat):(out.set i v).getD j false=if j=i then v else out.getD j false:=by
 rw[aG,List.getElem?_set]
 by_cases h:i=j
 ·subst h;simp[hi]
 ·rw[if_neg h,if_neg (fun h'=>h h'.symm),aG]
theorem awq{out:List Bool}(h:cf out=0){i:Nat}(hi:i<out.length):out.getD i false=true:=by
 unfold cf at h;rw[List.count_eq_zero]at h;rw[aT hi]
 cases ho:out[i]with
 |true=>rfl
 |false=>exact absurd (by rw[←ho];exact ak hi) h
theorem EY{n:Nat}{g:Gd}{x:Int}:ju n (g,x)=some (decide (oD g x)):=by
 rw[Qf,fM];show some (decide _&&decide _)=some (decide (oD g x));congr 1;apply Bool.eq_iff_iff.2;rw[aj,bF,bF,bF];exact Iff.rfl
theorem xW{n:Nat}{g:Gd}{x:Int}:i7 n (g,x)=some (decide (oD g x)):=by
 rw[WG,fM];show some (decide _&&decide _)=some (decide (oD g x));congr 1;apply Bool.eq_iff_iff.2;rw[aj,bF,bF,bF];exact Iff.rfl
structure A4 (g:Gd) (H:List (Option (List Int))) (w:Option (Nat×Nat×Nat)) (out:List Bool) (l:List Int) (i:Nat):Prop where
 len:out.length=g.1.length
 lo:∀j:Nat,j<i→out.getD j false=g.1.getD j false
 hi:∀j:Nat,i≤j→out.getD j false=false
 rd:sP H w=some l
 mem:∀x∈l,oD g x∧out.getD x.toNat false=true
 has:∀j:Nat,out.getD j false=true→(j:Int)∈l
 cnt:l.length+cf out=g.1.length
theorem uO{n:Nat}{g:Gd}(hl:g.1.length≤1000000)(hn:2000000000≤n):∀(m k i:Nat) (H:List (Option (List Int))) (w:Option (Nat×Nat×Nat)) (out:List Bool) (l:List Int),i+m=g.1.length→m<k→A4 g H w out l i→
  ∃H' w' out' l',rp n k ((),(),w,g.1,(g.1.length:Int),(i:Int),H,g,out,())=some ((),(),w',H',g,out',())∧A4 g H' w' out' l' g.1.length
 |0,k,i,H,w,out,l,h1,h2,h=>by
  obtain⟨k,rfl⟩:=iY k;rw[Bd,sS];have:i=g.1.length:=by omega
  subst this;exact⟨H,w,out,l,rfl,h⟩
 |m+1,k,i,H,w,out,l,h1,h2,h=>by
  obtain⟨k,rfl⟩:=iY k;have hi:i<g.1.length:=by omega
  have hlen:=h.len;have ho:i<out.length:=by omega
  have aBN:=h.cnt;rw[Bd,jK,qC hi false];simp only[aa];rw[af];have e:(i:Int)+1=((i+1:Nat):Int):=by omega
  by_cases c:g.1.getD i false=true
  ·rw[if_pos c,ej ho];simp only[aa];rw[ah ho];simp only[aa];obtain⟨H',w',a1,a2⟩:=M6 (b:=8) (m:=[(i:Int)]) h.rd (by simp;omega) (by omega);rw[a1];simp only[aa];rw[aN,e];have hf:out.getD i false=false:=h.hi i (aA _);refine uO hl hn m k (i+1) H' w' (out.set i true) (l++[(i:Int)]) (by omega) (by omega) ⟨by simpa using hlen,fun j hj=> ?_,fun j hj=> ?_,a2,fun x hx=> ?_,fun j hj=> ?_,?_⟩
   ·rw[il ho]
    by_cases hji:j=i
    ·rw[if_pos hji,hji,c]
    ·rw[if_neg hji];exact h.lo j (by omega)
   ·rw[il ho,gG];exact h.hi j (by omega)
   ·rw[il ho];rcases List.mem_append.1 hx with hx |hx
    ·refine⟨(h.mem x hx).1,?_⟩
     split
     ·rfl
     ·exact(h.mem x hx).2
    ·have:x=(i:Int):=by simpa using hx
     subst this;exact⟨⟨by omega,by omega⟩,by rw[if_pos (by simp)]⟩
   ·rw[il ho]at hj
    by_cases hji:j=i
    ·subst hji;exact bo _ (by simp)
    ·rw[if_neg hji]at hj;exact aR _ (h.has j hj)
   ·have:=aps ho hf;rw[ag,fO];omega
  ·rw[if_neg c];simp only[aa];rw[aN,e];refine uO hl hn m k (i+1) H w out l (by omega) (by omega) ⟨hlen,fun j hj=> ?_,fun j hj=>h.hi j (by omega),h.rd,h.mem,h.has,aBN⟩
   by_cases hji:j=i
   ·subst hji;rw[h.hi j (aA _)];simpa using c
   ·exact h.lo j (by omega)
structure A10 (g:Gd) (H:List (Option (List Int))) (w:Option (Nat×Nat×Nat)) (out:List Bool) (l:List Int):Prop where
 len:out.length=g.1.length
 ac:∀s:Nat,g.1.getD s false=true→out.getD s false=true
 sn:∀s:Nat,out.getD s false=true→Liv g (s:Int)
 rd:sP H w=some l
 mem:∀x∈l,oD g x∧out.getD x.toNat false=true
 cnt:l.length+cf out≤g.1.length
theorem uP{n:Nat}{g:Gd}{x:Int}(hE:Cc g)(hl:g.1.length≤1000000)(sQ:g.2.length≤1000000)(hx:Liv g x):∀(m k i:Nat) (H:List (Option (List Int))) (w:Option (Nat×Nat×Nat)) (out:List Bool) (l:List Int),i+m=g.2.length→m<k→A10 g H w out l→
  (∀j,j<g.2.length→out.getD (kX g j).2.2.2.toNat false=true→(kX g j).2.2.2∈l∨out.getD (kX g j).1.toNat false=true∨((kX g j).2.2.2=x∧i≤j))→
  ∃H' w' out' l',mD n k ((),(),w,x,g.2,(g.2.length:Int),(i:Int),H,g,out,())=some ((),(),w',H',g,out',())∧A10 g H' w' out' l'∧l'.length+cf out'=l.length+cf out∧
   (∀j,j<g.2.length→out'.getD (kX g j).2.2.2.toNat false=true→(kX g j).2.2.2∈l'∨out'.getD (kX g j).1.toNat false=true)
 |0,k,i,H,w,out,l,h1,h2,h,hc=>by
  obtain⟨k,rfl⟩:=iY k;rw[yF,sS];refine⟨H,w,out,l,rfl,h,rfl,fun j hj ht=> ?_⟩;rcases hc j hj ht with h |h |h
  ·exact .inl h
  ·exact .inr h
  ·omega
 |m+1,k,i,H,w,out,l,h1,h2,h,hc=>by
  obtain⟨k,rfl⟩:=iY k;have hi:i<g.2.length:=by omega
  have hlen:=h.len;have aBN:=h.cnt;obtain⟨e1,e2⟩:=hE i hi;obtain⟨f,hf⟩:∃f:Nat,(kX g i).1=(f:Int):=⟨(kX g i).1.toNat,by have:=e1.1;omega⟩;have hfo:f<out.length:=by have:=e1.2;omega
  have e:(i:Int)+1=((i+1:Nat):Int):=by omega
  rw[yF,jK,QK hi];simp only[aa];rw[hf,ej hfo];simp only[aa];rw[ah hfo];simp only[aa];rw[fM];simp only[aa];rw[af];have hg:out.getD f false=out[f]:=aT hfo false
  by_cases c:(((kX g i).2.2.2==x)&& !out[f])=true
  ·rw[if_pos c];rw[aj,beq_iff_eq,aW]at c;obtain⟨H',w',a1,a2⟩:=M6 (b:=8) (m:=[(f:Int)]) h.rd (by simp;omega) (by omega);rw[a1];simp only[aa];rw[aN,e];have hlf:Liv g (f:Int):=by rw[←hf];exact Liv.step hi (by rw[c.1];exact hx)
   have hcf:=aps hfo (by rw[hg];exact c.2);have hA:A10 g H' w' (out.set f true) (l++[(f:Int)]):=by
    refine⟨by simpa using hlen,fun s hs=> ?_,fun s hs=> ?_,a2,fun y hy=> ?_,?_⟩
    ·rw[il hfo];split
     ·rfl
     ·exact h.ac s hs
    ·rw[il hfo]at hs
     by_cases hsf:s=f
     ·subst hsf;exact hlf
     ·rw[if_neg hsf]at hs;exact h.sn s hs
    ·rw[il hfo];rcases List.mem_append.1 hy with hy |hy
     ·refine⟨(h.mem y hy).1,?_⟩
      split
      ·rfl
      ·exact(h.mem y hy).2
     ·have:y=(f:Int):=by simpa using hy
      subst this;exact⟨by rw[←hf];exact e1,by rw[if_pos (by simp)]⟩
    ·rw[ag,fO];omega
   have hB:∀j,j<g.2.length→(out.set f true).getD (kX g j).2.2.2.toNat false=true→(kX g j).2.2.2∈l++[(f:Int)]∨(out.set f true).getD (kX g j).1.toNat false=true∨((kX g j).2.2.2=x∧i+1≤j):=by
    intro j hj ht;rw[il hfo]at ht;rw[il hfo];have e3:=(hE j hj).2
    by_cases htf:(kX g j).2.2.2.toNat=f
    ·left;exact bo _ (by simp;have:=e3.1;omega)
    ·rw[if_neg htf]at ht;rcases hc j hj ht with h |h |h
     ·exact .inl (aR _ h)
     ·right;left
      split
      ·rfl
      ·exact h
     ·by_cases hji:j=i
      ·right;left;subst hji;rw[hf,if_pos (by simp)]
      ·exact .inr (.inr ⟨h.1,by omega⟩)
   obtain⟨H2,w2,aD9,l2,b1,b2,b3,b4⟩:=uP (n:=n) hE hl sQ hx m k (i+1) H' w' (out.set f true) (l++[(f:Int)]) (by omega) (by omega) hA hB;rw[ag,fO]at b3;exact⟨H2,w2,aD9,l2,b1,b2,by omega,b4⟩
  ·rw[if_neg c];simp only[aa];rw[aN,e];refine uP (n:=n) hE hl sQ hx m k (i+1) H w out l (by omega) (by omega) h (fun j hj ht=> ?_);rcases hc j hj ht with h |h |h
   ·exact .inl h
   ·exact .inr (.inl h)
   ·by_cases hji:j=i
    ·right;left;subst hji;rw[hf,ax,hg];apply Decidable.byContradiction;intro hh;apply c;rw[aj,beq_iff_eq,aW];exact⟨h.1,by simpa using hh⟩
    ·exact .inr (.inr ⟨h.1,by omega⟩)
theorem GC{n:Nat}{g:Gd}(hE:Cc g)(hl:g.1.length≤1000000)(sQ:g.2.length≤1000000)(hn:2000000000≤n):∀(k:Nat) (H:List (Option (List Int))) (w:Option (Nat×Nat×Nat)) (out:List Bool) (l:List Int),l.length+cf out<k→A10 g H w out l→
  (∀j,j<g.2.length→out.getD (kX g j).2.2.2.toNat false=true→(kX g j).2.2.2∈l∨out.getD (kX g j).1.toNat false=true)→
  ∃H' out',qa n k ((),(),w,H,g,out,())=some ((),H',out',())∧zY g out'
 |0,H,w,out,l,hk,_,_=>by omega
 |k+1,H,w,out,l,hk,h,hc=>by
  rw[Nk,YK h.rd]
  match l,h,hk,hc with
  |[],h,hk,hc=>
   refine⟨H,out,rfl,anm hE h.len h.ac h.sn fun i hi ht=> ?_⟩;rcases hc i hi ht with h |h
   ·cases h
   ·exact h
  |x::l,h,hk,hc=>
   rw[af,if_pos (by rw[bF,aZ];omega)];obtain⟨p,v,rfl,p2,p3,p4,-⟩:=aiz h.rd (i:=0) (by simp);simp only[aa];rw[show(0:Int)=((0:Nat):Int)from rfl,p2];simp only[aa];rw[p3];simp only[aa];rw[p4];simp only[aa];obtain⟨y,y1,y2⟩:=at2 h.rd (by simp);rw[YK h.rd]at y1;rw[y1];simp only[aa];have hx:=h.mem x aH;obtain⟨H',w',out',l',b1,b2,b3,b4⟩:=uP (n:=n) (x:=x) hE hl sQ (by have:=h.sn _ hx.2;rw[show(x.toNat:Int)=x by have:=hx.1.1;omega]at this;exact this) g.2.length n 0 H y out l (by omega) (by omega)
    ⟨h.len,h.ac,h.sn,y2,fun z hz=>h.mem z (aF _ hz),by have:=h.cnt;rw[aZ]at this;omega⟩ (fun j hj ht=>by
     rcases hc j hj ht with h |h
     ·rcases List.mem_cons.1 h with h |h
      ·exact .inr (.inr ⟨h,by omega⟩)
      ·exact .inl h
     ·exact .inr (.inl h))
   show ∃H' out',(mD n n ((),(),y,x,g.2,(g.2.length:Int),((0:Nat):Int),H,g,out,())).bind _=_∧_;rw[b1];simp only[aa];exact GC hE hl sQ hn k H' w' out' l' (by rw[aZ]at hk;omega) b2 b4
theorem YL{n:Nat}{g:Gd}(hE:Cc g)(hl:g.1.length≤1000000)(sQ:g.2.length≤1000000)(hn:2000000000≤n):∃b,qP n g=some b∧zY g b:=by
 rw[Wg,gY (m:=g.1.length) rfl (by omega) (by omega)];simp only[aa];obtain⟨H,w,out,l,a1,a2⟩:=uO (n:=n) hl hn g.1.length n 0 [] none (ao g.1.length false) [] (by omega) (by omega)
  ⟨by simp,fun j hj=>(by omega),fun j _=>apr _ _,rfl,fun x hx=>(by cases hx),fun j hj=>(by rw[apr]at hj;cases hj),by unfold cf;simp⟩
 rw[show((0:Nat):Int)=0 from rfl]at a1;rw[a1];simp only[aa];have hcf:=a2.cnt;have hout:∀s:Nat,out.getD s false=g.1.getD s false:=by
  intro s
  by_cases hs:s<g.1.length
  ·exact a2.lo s hs
  ·rw[a2.hi s (by omega)];simp[Nat.le_of_not_lt hs]
 obtain⟨H',out',b1,b2⟩:=GC (n:=n) hE hl sQ hn n H w out l (by omega)
  ⟨a2.len,fun s hs=>by rw[hout];exact hs,fun s hs=>Liv.acc (by rw[←hout];exact hs),a2.rd,a2.mem,by omega⟩ (fun j hj ht=> .inl (by
   have:=a2.has _ ht;rw[show(((kX g j).2.2.2.toNat:Nat):Int)=(kX g j).2.2.2 by have:=(hE j hj).2.1;omega]at this;exact this))
 rw[b1];exact⟨out',rfl,b2⟩
theorem at4{out:List Bool}{i:Nat}(hi:i<out.length)(h:out.getD i false=true):out.set i true=out:=by
 refine List.ext_getElem (by simp) fun j h1 h2=> ?_;rw[List.getElem_set]
 split
 ·rename_i e;subst e;rw[aT hi]at h;exact h.symm
 ·rfl
def Clo(g:Gd)(out:List Bool)(m:Nat):Prop:=∀i,i<m→out.getD (kX g i).2.2.2.toNat false=true→out.getD (kX g i).1.toNat false=true
structure R15 (g:Gd) (px out:List Bool) (i:Nat):Prop where
 len:out.length=g.1.length
 ac:∀s:Nat,g.1.getD s false=true→out.getD s false=true
 sn:∀s:Nat,out.getD s false=true→Liv g (s:Int)
 way:(out=px∧Clo g out i)∨(cf out<cf px∧¬ Clo g px g.2.length)
theorem Ms{n:Nat}{g:Gd}{px:List Bool}{x:Option (Nat×Nat×Nat)}{z:Int}(hE:Cc g)(sQ:g.2.length≤1000000):∀(m k i:Nat) (H:List (Option (List Bool))) (out:List Bool),i+m=g.2.length→m<k→sP H x=some out→R15 g px out i→
  ∃H' out',rJ n k ((),x,z,(i:Int),H,g,())=some ((),x,z,H',g,())∧sP H' x=some out'∧R15 g px out' g.2.length
 |0,k,i,H,out,h1,h2,h3,h=>by
  obtain⟨k,rfl⟩:=iY k;have:i=g.2.length:=by omega
  subst this;rw[BF,af,if_neg (by simp)];exact⟨H,out,rfl,h3,h⟩
 |m+1,k,i,H,out,h1,h2,h3,h=>by
  obtain⟨k,rfl⟩:=iY k;have hi:i<g.2.length:=by omega
  have hlen:=h.len;obtain⟨e1,e2⟩:=hE i hi;obtain⟨f,hf⟩:∃f:Nat,(kX g i).1=(f:Int):=⟨(kX g i).1.toNat,by have:=e1.1;omega⟩;obtain⟨t,ht⟩:∃t:Nat,(kX g i).2.2.2=(t:Int):=⟨(kX g i).2.2.2.toNat,by have:=e2.1;omega⟩;have hfo:f<out.length:=by have:=e1.2;omega
  have hto:t<out.length:=by have:=e2.2;omega
  have e:(i:Int)+1=((i+1:Nat):Int):=by omega
  rw[BF,jK,QK hi];simp only[aa];rw[xW,decide_eq_true e1];simp only[aa,j9];rw[xW,decide_eq_true e2];simp only[aa,j9];obtain⟨p,w,q1,q2,q3,q4,-⟩:=aiz h3 hto;obtain⟨p',w',r1,r2,r3,r4,r5⟩:=aiz h3 hfo;have hpp:p'=p:=by rw[q1]at r1;exact(Option.some.inj r1).symm
  subst hpp;have hww:w'=w:=by rw[q3]at r3;exact(Option.some.inj r3).symm
  subst hww;rw[ht,hf,q1];simp only[aa];rw[q2];simp only[aa];rw[q3];simp only[aa];rw[q4];simp only[aa];rw[←q1];have hgt:out.getD t false=out[t]:=aT hto false;rw[af]
  by_cases c:out[t]=true
  ·rw[if_pos c,r2];simp only[aa];rw[r4];simp only[aa];obtain⟨H',u1,u2⟩:=r5 true;rw[u1];simp only[aa];rw[aN,e];refine Ms (n:=n) hE sQ m k (i+1) H' (out.set f true) (by omega) (by omega) u2 ?_
   by_cases hof:out.getD f false=true
   ·rw[at4 hfo hof];refine⟨hlen,h.ac,h.sn,?_⟩;rcases h.way with⟨w1,w2⟩|w
    ·refine .inl ⟨w1,fun j hj hjt=> ?_⟩
     by_cases hji:j=i
     ·subst hji;rw[hf,ax];exact hof
     ·exact w2 j (by omega) hjt
    ·exact .inr w
   ·have hof:out.getD f false=false:=by simpa using hof
    have hcf:=aps hfo hof;have hlf:Liv g (f:Int):=by rw[←hf];exact Liv.step hi (by rw[ht];exact h.sn t (by rw[hgt];exact c))
    refine⟨by simpa using hlen,fun s hs=> ?_,fun s hs=> ?_,?_⟩
    ·rw[il hfo];split
     ·rfl
     ·exact h.ac s hs
    ·rw[il hfo]at hs
     by_cases hsf:s=f
     ·subst hsf;exact hlf
     ·rw[if_neg hsf]at hs;exact h.sn s hs
    ·right;rcases h.way with⟨w1,w2⟩|w
     ·subst w1;refine⟨by omega,fun hcl=> ?_⟩;have:=hcl i hi (by rw[ht,ax,hgt];exact c);rw[hf,ax,hof]at this
      cases this
     ·exact⟨by omega,w.2⟩
  ·rw[if_neg c];simp only[aa];rw[aN,e];refine Ms (n:=n) hE sQ m k (i+1) H out (by omega) (by omega) h3 ⟨hlen,h.ac,h.sn,?_⟩;rcases h.way with⟨w1,w2⟩|w
   ·refine .inl ⟨w1,fun j hj hjt=> ?_⟩
    by_cases hji:j=i
    ·subst hji;rw[ht,ax,hgt]at hjt;exact absurd hjt c
    ·exact w2 j (by omega) hjt
   ·exact .inr w
theorem UC{n:Nat}{g:Gd}{x:Option (Nat×Nat×Nat)}(hE:Cc g)(hl:g.1.length≤1000000)(sQ:g.2.length≤1000000)(hn:2000000000≤n):∀(m k r:Nat) (H:List (Option (List Bool))) (out:List Bool),r+m=g.1.length→m<k→sP H x=some out→out.length=g.1.length→
  (∀s:Nat,g.1.getD s false=true→out.getD s false=true)→(∀s:Nat,out.getD s false=true→Liv g (s:Int))→(Clo g out g.2.length∨cf out+r≤g.1.length)→
  ∃H' out',rH n k ((),x,(r:Int),H,g,())=some (x,H',())∧sP H' x=some out'∧zY g out'
 |0,k,r,H,out,h1,h2,h3,h4,h5,h6,h7=>by
  obtain⟨k,rfl⟩:=iY k;rw[BE,sS];refine⟨H,out,rfl,h3,anm hE h4 h5 h6 ?_⟩;rcases h7 with h7 |h7
  ·exact h7
  ·intro i hi _;have e1:=(hE i hi).1;have h8:cf out=0:=by omega
   exact awq h8 (by have:=e1.1;have:=e1.2;omega)
 |m+1,k,r,H,out,h1,h2,h3,h4,h5,h6,h7=>by
  obtain⟨k,rfl⟩:=iY k;rw[BE,jK];obtain⟨H',out',a1,a2,a3⟩:=Ms (n:=n) (g:=g) (px:=out) (x:=x) (z:=(r:Int)) hE sQ g.2.length n 0 H out (by omega) (by omega) h3 ⟨h4,h5,h6,.inl ⟨rfl,fun j hj=>by omega⟩⟩;rw[show((0:Nat):Int)=0 from rfl]at a1;rw[a1];simp only[aa];rw[aN,show(r:Int)+1=((r+1:Nat):Int)by omega];refine UC hE hl sQ hn m k (r+1) H' out' (by omega) (by omega) a2 a3.len a3.ac a3.sn ?_;rcases a3.way with⟨w1,w2⟩|⟨w1,w2⟩
  ·exact .inl w2
  ·right;rcases h7 with h7 |h7
   ·exact absurd h7 w2
   ·omega
theorem UD{α:Type}:sP (eR ([]:List (Option (List α))) []) (some (0,0,0))=some []:=rfl
theorem YM{n:Nat}{g:Gd}(hE:Cc g)(hl:g.1.length≤1000000)(sQ:g.2.length≤1000000)(hn:2000000000≤n):∃b,qW n g=some b∧zY g b:=by
 rw[WH];obtain⟨H,x,a1,a2⟩:=M6 (b:=1) (m:=g.1) (UD (α:=Bool)) (by simp;omega) (by omega);rw[a1];simp only[aa];rw[bE]at a2;obtain⟨H',out',b1,b2,b3⟩:=UC (n:=n) (g:=g) (x:=x) hE hl sQ hn g.1.length n 0 H g.1 (by omega) (by omega) a2 rfl (fun s h=>h) (fun s h=>Liv.acc h) (.inr (by have:=aBM g.1;omega));rw[show((0:Nat):Int)=0 from rfl]at b1;rw[b1];simp only[aa];refine⟨out',?_,b3⟩
 match x,b2 with
 |none,b2=>cases b2;rfl
 |some (o,a,c),b2=>
  unfold gsF;simp only[b2,aa]
def YN(e f:Edg):Prop:=e.1=f.1∧e.2.1≤f.2.2.1∧f.2.1≤e.2.2.1
instance (e f:Edg):Decidable (YN e f):=by unfold YN;exact inferInstance
def akX(g:Gd)(i:Nat):Prop:=(oD g (kX g i).1∧oD g (kX g i).2.2.2∧(kX g i).2.1≤(kX g i).2.2.1)∧∀k,k<i→¬ YN (kX g k) (kX g i)
def zZ(g:Gd):Prop:=∀i,i<g.2.length→akX g i
theorem zZ.st{g:Gd}(h:zZ g):Cc g:=fun i hi=>⟨(h i hi).1.1,(h i hi).1.2.1⟩
structure abq (g:Gd):Prop where
 l:g.1.length≤64
 l2:g.2.length≤1024
 e:zZ g
 a:0<g.1.length→Liv g 0
def apt(g:Gd)(e:Int):Prop:=(64<g.1.length∧e=150)∨(g.1.length≤64∧(1024<g.2.length∨¬ zZ g)∧e=151)∨(g.1.length≤64∧g.2.length≤1024∧zZ g∧0<g.1.length∧¬ Liv g 0∧e=152)∨(abq g∧e=0)
theorem apt.uniq{g:Gd}{a b:Int}(h1:apt g a)(h2:apt g b):a=b:=by
 rcases h1 with⟨p,rfl⟩|⟨p,q,rfl⟩|⟨p,q,r,s,t,rfl⟩|⟨p,rfl⟩<;>rcases h2 with⟨p',rfl⟩|⟨p',q',rfl⟩|⟨p',q',r',s',t',rfl⟩|⟨p',rfl⟩<;>first |rfl |omega |(exfalso;first |(rcases q with q |q<;>first |omega |exact q r' |exact q p'.e |(have:=p'.l2;omega))|(rcases q' with q' |q'<;>first |omega |exact q' r |exact q' p.e |(have:=p.l2;omega))|exact t (p'.a s)|exact t' (p.a s')|(have:=p.l;omega)|(have:=p'.l;omega))
theorem apt.zero{g:Gd}{e:Int}(h:apt g e):e=0↔abq g:=by
 constructor
 ·intro h0;rcases h with⟨p,rfl⟩|⟨p,q,rfl⟩|⟨p,q,r,s,t,rfl⟩|⟨p,rfl⟩
  ·cases h0
  ·cases h0
  ·cases h0
  ·exact p
 ·intro h0;exact h.uniq (.inr (.inr (.inr ⟨h0,rfl⟩)))
theorem afi{g:Gd}{i:Nat}:(!decide (oD g (kX g i).1)||(!decide (oD g (kX g i).2.2.2)||decide ((kX g i).2.1>(kX g i).2.2.1)))= !decide (oD g (kX g i).1∧oD g (kX g i).2.2.2∧(kX g i).2.1≤(kX g i).2.2.1):=by
 apply Bool.eq_iff_iff.2;simp only[aB,aW,bF,decide_eq_false_iff_not];constructor
 ·intro h h';rcases h with h |h |h
  ·exact h h'.1
  ·exact h h'.2.1
  ·have:=h'.2.2;omega
 ·intro h
  by_cases h1:oD g (kX g i).1
  ·by_cases h2:oD g (kX g i).2.2.2
   ·right;right;have:¬ (kX g i).2.1≤(kX g i).2.2.1:=fun h3=>h ⟨h1,h2,h3⟩;omega
   ·exact .inr (.inl h2)
  ·exact .inl h1
theorem YO{e f:Edg}:((e.1==f.1)&&(decide (e.2.1≤f.2.2.1)&&decide (f.2.1≤e.2.2.1)))=decide (YN e f):=by
 apply Bool.eq_iff_iff.2;rw[aj,aj,beq_iff_eq,bF,bF,bF];exact Iff.rfl
theorem apu{n:Nat}{g:Gd}{i:Nat}(hi:i<g.2.length)(sQ:g.2.length≤1000000)(hn:2000000000≤n):∃b,zA n (g,(i:Int))=some b∧(b=true↔akX g i):=by
 rw[aaP,QK hi];simp only[aa,xW,eP,afi]
 by_cases c:oD g (kX g i).1∧oD g (kX g i).2.2.2∧(kX g i).2.1≤(kX g i).2.2.1
 case neg=>
  rw[decide_eq_false c];exact⟨false,rfl,fun h=>(by cases h),fun h=>absurd h.1 c⟩
 rw[decide_eq_true c];simp only[ba,cg];rcases dc (L:=fun k j (_:Unit)=>kF n k ((i:Int),(),(),j,g,kX g i,())) (len:=i) (fun _=>()) (fun k=>¬ YN (kX g k) (kX g i)) (fun _=> .inl (false,())) (.inr ()) (by
  intro k j hj _;show(_∧kF n (k+1) _=_)∨(_∧kF n (k+1) _=_);rw[Du,jK,QK (show j<g.2.length by omega)];simp only[aa,fM,YO];rw[af]
  by_cases c:YN (kX g j) (kX g i)
  ·rw[if_pos (by simpa using c)];exact .inr ⟨fun h=>h c,rfl⟩
  ·rw[if_neg (by simpa using c),aN];exact .inl ⟨c,rfl⟩) (by
  intro k;show kF n (k+1) _=_;rw[Du,af,if_neg (by simp)]) n (by omega)with⟨h1,h2⟩|⟨j,h1,h2,h3,h4⟩
 ·rw[h2];exact⟨true,rfl,fun _=>⟨c,h1⟩,fun _=>rfl⟩
 ·rw[h4];exact⟨false,rfl,fun h=>(by cases h),fun h=>absurd (h.2 j h1) h3⟩
theorem afj{g:Gd}{b:List Bool}(h:zY g b)(hp:0<g.1.length):∃x,idx b (0:Int)=some x∧(x=true↔Liv g 0):=by
 have hl:0<b.length:=by rw[h.1];exact hp
 have:=qC hl false;rw[show((0:Nat):Int)=0 from rfl]at this;exact⟨_,this,h.2 0 hp⟩
theorem Mt{n:Nat}{g:Gd}(hl:g.1.length≤1048576)(hn:2000000000≤n):∃r,l5 n g=some r∧apt g r.2:=by
 rw[WI];simp only[af,bF]
 by_cases c1:(g.1.length:Int)>64
 ·rw[if_pos c1];exact⟨_,rfl,.inl ⟨by omega,rfl⟩⟩
 rw[if_neg c1]
 by_cases c2:(g.2.length:Int)>1024
 ·rw[if_pos c2];exact⟨_,rfl,.inr (.inl ⟨by omega,.inl (by omega),rfl⟩)⟩
 rw[if_neg c2];rcases dc (L:=fun k j (_:Unit)=>jG n k ((),j,g,())) (len:=g.2.length) (fun _=>()) (akX g) (fun i=> .inl ((i:Int),151,())) (.inr ((),g,())) (by
  intro k j hj _;show(_∧jG n (k+1) _=_)∨(_∧jG n (k+1) _=_);obtain⟨b,e,h⟩:=apu (n:=n) hj (by omega) hn;rw[BG,jK,e]
  cases b with
  |true=>simp only[aa,ba,cg];rw[aN];exact .inl ⟨h.1 rfl,rfl⟩
  |false=>exact .inr ⟨fun h'=>(by have:=h.2 h';cases this),rfl⟩) (by
  intro k;show jG n (k+1) _=_;rw[BG,af,if_neg (by simp)]) n (by omega)with⟨h1,h2⟩|⟨j,h1,h2,h3,h4⟩
 case inr=>
  rw[h4];exact⟨_,rfl,.inr (.inl ⟨by omega,.inr fun h=>h3 (h j h1),rfl⟩)⟩
 rw[h2];simp only[aa,cY]
 by_cases c3:(g.1.length:Int)>0
 ·rw[if_pos c3];obtain⟨b,b1,b2⟩:=YM (n:=n) (zZ.st h1) (by omega) (by omega) hn;rw[b1];simp only[aa];obtain⟨x,x1,x2⟩:=afj b2 (by omega);rw[x1];simp only[aa]
  cases x with
  |true=>exact⟨_,rfl,.inr (.inr (.inr ⟨⟨by omega,by omega,h1,fun _=>x2.1 rfl⟩,rfl⟩))⟩
  |false=>exact⟨_,rfl,.inr (.inr (.inl ⟨by omega,by omega,h1,by omega,fun h=>(by have:=x2.2 h;cases this),rfl⟩))⟩
 ·rw[if_neg c3];exact⟨_,rfl,.inr (.inr (.inr ⟨⟨by omega,by omega,h1,fun h=>by omega⟩,rfl⟩))⟩
theorem at5{g:Gd}{i j:Nat}(h:j<i)(hi:i≤g.2.length):idx (g.2.take i) (j:Int)=some (kX g j):=by
 rw[bj (by rw[aC];omega)];unfold kX;simp[show j<g.2.length by omega]
theorem Mu{n:Nat}{g:Gd}(hl:g.1.length≤1048576)(hn:2000000000≤n):∃r,lU n g=some r∧apt g r.2:=by
 rw[Wh];simp only[af,bF]
 by_cases c1:(g.1.length:Int)>64
 ·rw[if_pos c1];exact⟨_,rfl,.inl ⟨by omega,rfl⟩⟩
 rw[if_neg c1]
 by_cases c2:(g.2.length:Int)>1024
 ·rw[if_pos c2];exact⟨_,rfl,.inr (.inl ⟨by omega,.inl (by omega),rfl⟩)⟩
 rw[if_neg c2];rcases dc (L:=fun k j (_:Unit)=>jv n k ((),g.2,(g.2.length:Int),j,g,())) (len:=g.2.length) (fun _=>()) (akX g) (fun i=> .inl ((i:Int),151,())) (.inr ((),g,())) (by
  intro k j hj _;show(_∧jv n (k+1) _=_)∨(_∧jv n (k+1) _=_);rw[Be,jK,QK hj];simp only[aa,EY,eP,afi]
  by_cases c:oD g (kX g j).1∧oD g (kX g j).2.2.2∧(kX g j).2.1≤(kX g j).2.2.1
  case neg=>
   rw[decide_eq_false c];exact .inr ⟨fun h=>c h.1,rfl⟩
  rw[decide_eq_true c];simp only[ba,cg];rw[we];simp only[aa];have hlen:(g.2.take j).length=j:=by rw[aC];omega
  rw[hlen];rcases dc (L:=fun k i (_:Unit)=>iM n k ((),(j:Int),(),g.2,(g.2.length:Int),(j:Int),g.2.take j,(j:Int),i,g,kX g j,())) (len:=j) (fun _=>()) (fun k=>¬ YN (kX g k) (kX g j)) (fun _=> .inl ((j:Int),151,())) (.inr ((),g.2,(g.2.length:Int),(j:Int),g,())) (by
   intro k i hi _;show(_∧iM n (k+1) _=_)∨(_∧iM n (k+1) _=_);rw[yG,jK,at5 hi (by omega)];simp only[aa,fM,YO];rw[af]
   by_cases c:YN (kX g i) (kX g j)
   ·rw[if_pos (by simpa using c)];exact .inr ⟨fun h=>h c,rfl⟩
   ·rw[if_neg (by simpa using c),aN];exact .inl ⟨c,rfl⟩) (by
   intro k;show iM n (k+1) _=_;rw[yG,af,if_neg (by simp)]) n (by omega)with⟨h1,h2⟩|⟨i,h1,h2,h3,h4⟩
  ·rw[h2];simp only[aa,cY];rw[aN];exact .inl ⟨⟨c,h1⟩,rfl⟩
  ·rw[h4];exact .inr ⟨fun h=>h3 (h.2 i h1),rfl⟩) (by
  intro k;show jv n (k+1) _=_;rw[Be,af,if_neg (by simp)]) n (by omega)with⟨h1,h2⟩|⟨j,h1,h2,h3,h4⟩
 case inr=>
  rw[h4];exact⟨_,rfl,.inr (.inl ⟨by omega,.inr fun h=>h3 (h j h1),rfl⟩)⟩
 rw[h2];simp only[aa,cY]
 by_cases c3:(g.1.length:Int)>0
 ·rw[if_pos c3];obtain⟨b,b1,b2⟩:=YL (n:=n) (zZ.st h1) (by omega) (by omega) hn;rw[b1];simp only[aa];obtain⟨x,x1,x2⟩:=afj b2 (by omega);rw[x1];simp only[aa]
  cases x with
  |true=>exact⟨_,rfl,.inr (.inr (.inr ⟨⟨by omega,by omega,h1,fun _=>x2.1 rfl⟩,rfl⟩))⟩
  |false=>exact⟨_,rfl,.inr (.inr (.inl ⟨by omega,by omega,h1,by omega,fun h=>(by have:=x2.2 h;cases this),rfl⟩))⟩
 ·rw[if_neg c3];exact⟨_,rfl,.inr (.inr (.inr ⟨⟨by omega,by omega,h1,fun h=>by omega⟩,rfl⟩))⟩
end Go.Am.Pu
