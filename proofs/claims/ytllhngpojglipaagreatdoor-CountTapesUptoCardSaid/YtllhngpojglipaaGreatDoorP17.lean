import Derived.Test.YtllhngpojglipaaGreatDoorP16
set_option linter.unusedVariables false
set_option linter.unusedSimpArgs false
open Bool renaming or_eq_true→aB
open Int renaming emod_lt_of_pos→dD,emod_nonneg→fw,mul_ediv_add_emod→dU,mul_le_mul_of_nonneg_right→ci,mul_le_mul→dR,mul_nonneg→dq,toNat_natCast→ax
open List renaming drop_eq_getElem_cons→bz,drop_of_length_le→bB,drop_zero→dC,getElem?_append_left→aQ,getElem?_eq_getElem→ah,getElem?_eq_none→bx,getElem?_set_ne→dw,getElem_mem→ak,getElem_of_mem→aL,length_append→ag,length_cons→aZ,length_drop→dI,length_map→di,length_replicate→aY,length_set→aP,length_take→aC,length→ae,map_append→eI,map_cons→cj,mem_cons_of_mem→aF,mem_cons_self→aH,mem_of_mem_take→dy,mem_or_eq_of_mem_set→ev,nil_append→bE,replicate_succ→cM,replicate→ao,sum_cons→dS,take_add_one→dO,take_append_drop→cH,take_length→ch,take_of_length_le→bA,take_zero→fm
open Nat renaming le_refl→aA
open Option renaming bind_some→aa
namespace Go.Am.Pu
open Go Go.Am
theorem apI{l:List Int}(h:∀x∈l,0≤x):0≤l.sum:=by
 induction l with
 |nil=>simp
 |cons x l ih=>
  have h1:=h x aH;have h2:=ih fun y hy=>h y (aF _ hy);rw[dS];omega
theorem afz{l:List Int}(h:∀x∈l,0≤x){x:Int}(hx:x∈l):x≤l.sum:=by
 induction l with
 |nil=>cases hx
 |cons y l ih=>
  have h1:=h y aH;have h2:=apI fun z hz=>h z (aF _ hz);rw[dS];rcases List.mem_cons.1 hx with rfl |hx
  ·omega
  ·have:=ih (fun z hz=>h z (aF _ hz)) hx;omega
theorem anx{l m:List Int}(h:l.Perm m):l.sum=m.sum:=by
 induction h with
 |nil=>rfl
 |cons x _ ih=>simp only[dS,ih]
 |swap x y l=>simp only[dS];omega
 |trans _ _ h1 h2=>exact h1.trans h2
theorem aiH(K:List Int):(places K.length).map (ky K)=K:=by
 refine List.ext_getElem (by rw[di,n9]) fun i h1 h2=> ?_;unfold places ky;simp[h2]
def some_(K o:List Int)(k:Nat):Int:=((o.take k).map (ky K)).sum
theorem awu{K o:List Int}(h:Cd K o):some_ K o o.length=K.sum:=by
 unfold some_;rw[ch,anx (h.1.map (ky K)),aiH]
theorem aiI{K o:List Int}{k:Nat}(h:k<o.length):some_ K o (k+1)=some_ K o k+ky K o[k]:=by
 unfold some_;have e:o.take (k+1)=o.take k++[o[k]]:=by rw[dO,ah h];rfl
 rw[e,eI,List.sum_append];simp
theorem afA{K:List Int}{x:Int}(h:0≤x∧x<(K.length:Int)):ky K x∈K:=by
 unfold ky;rw[aT (by omega)];exact ak _
theorem afB{K o:List Int}(hW:WOk K)(h:Cd K o):∀{k:Nat},k≤o.length→0≤some_ K o k∧some_ K o k≤1073741824*k
 |0,_=>by simp[some_]
 |k+1,hk=>by
  have h1:=afB hW h (k:=k) (by omega);have h2:=hW.2.1 _ (afA (K:=K) (h.mem (ak (show k<o.length by omega))));rw[aiI (by omega)];omega
theorem azd{n:Nat}{K:List Int}{part:Int}(hn:2000000000≤n)(hW:WOk K)(hp:1≤part∧part≤65536):∃o j,Cd K o∧j≤o.length∧pG n (K,part)=some (o.take j,0)∧ll n (K,part)=some (o.take j,0)∧0<some_ K o j:=by
 have hl:=hW.1;have hsum:=hW.apH;have hpos:=hW.2.2;obtain⟨o,a1,a2,a3⟩:=apG (n:=n) (K:=K) hn (by omega);have J5:=a3.len;have hos:=awu a3;have hpa:0<part*K.sum∧part*K.sum≤65536*K.sum:=⟨Int.mul_pos (by omega) hpos,ci hp.2 (by omega)⟩;have step:∀(m k j:Nat),j+m=o.length→m<k→∃i,j≤i∧i≤o.length∧qd n k (K,part,K.sum,o,(j:Int),some_ K o j,())=some (o,(i:Int),())∧pi n k (K,part,K.sum,o,(j:Int),some_ K o j,())=some (o,(i:Int),())∧part*K.sum≤some_ K o i*65536:=by
  intro m
  induction m with
  |zero=>
   intro k j h1 h2;obtain⟨k,rfl⟩:∃q,k=q+1:=⟨k -1,by omega⟩;have:j=o.length:=by omega
   subst this;rw[yK,xO,hos];rw[aN (x:=K.sum*65536),aN (x:=part*K.sum),af,sS,if_neg (by rw[bF];omega)];refine⟨o.length,aA _,aA _,rfl,rfl,?_⟩;rw[hos];omega
  |succ m ih=>
   intro k j h1 h2;obtain⟨k,rfl⟩:∃q,k=q+1:=⟨k -1,by omega⟩;have hj:j<o.length:=by omega
   have hr:=afB hW a3 (k:=j) (by omega);have hr2:=afB hW a3 (k:=j+1) (by omega);rw[yK,xO];rw[aN (x:=some_ K o j*65536),aN (x:=part*K.sum),af,af]
   by_cases c:some_ K o j*65536<part*K.sum
   ·rw[if_pos (by simpa using c),if_pos (by simpa using c),bj hj];simp only[aa];rw[aqF (a3.mem (ak hj))];simp only[aa];rw[←aiI hj,aN (x:=(j:Int)+1),aN (x:=some_ K o (j+1)),show(j:Int)+1=((j+1:Nat):Int)by omega];obtain⟨i,h3,h4,h5,h6,h7⟩:=ih k (j+1) (by omega) (by omega);exact⟨i,by omega,h4,h5,h6,h7⟩
   ·rw[if_neg (by simpa using c),if_neg (by simpa using c)];exact⟨j,aA _,by omega,rfl,rfl,by omega⟩
 obtain⟨i,-,h4,h5,h6,h7⟩:=step o.length n 0 (by omega) (by omega);rw[show((0:Nat):Int)=0 from rfl,show some_ K o 0=0 from rfl]at h5 h6;refine⟨o,i,a3,h4,?_,?_,by omega⟩
 ·rw[Tq,eP];simp only[aa];rw[af,if_neg (by rw[aB,bF,bF];omega),anw hW hn];simp only[aa];rw[show((0:Int)!=0)=false from rfl,cg,a1];simp only[aa];rw[h5];simp only[aa];rw[we h4];simp only[aa];rw[et (by rw[aC];simp;omega) (by omega)];simp
 ·rw[Qs,eP];simp only[aa];rw[af,if_neg (by rw[aB,bF,bF];omega),aiG hW hn];simp only[aa];rw[show((0:Int)!=0)=false from rfl,cg,a2];simp only[aa];rw[h6];simp only[aa];rw[we h4];rfl
def qI(K:List Int)(t:Int):List Int:=K.map fun w=>w*t/K.sum
def rI(K:List Int)(t:Int):List Int:=K.map fun w=>w*t % K.sum
def uR(K:List Int)(t:Int):Int:=t -(qI K t).sum
theorem auc{K:List Int}{t:Int}:K.sum*uR K t=(rI K t).sum:=by
 have key:∀(l:List Int) (S:Int),(l.map fun w=>w*t % S).sum=l.sum*t -S*(l.map fun w=>w*t/S).sum:=by
  intro l S
  induction l with
  |nil=>simp
  |cons x l ih=>
   simp only[cj,dS,ih];have:=dU (x*t) S
   grind
 unfold uR rI qI;rw[key K K.sum]
 grind
theorem afC{l:List Int}{S:Int}(h:∀x∈l,0≤x∧x<S):0≤l.sum∧(l≠[]→l.sum<S*l.length):=by
 induction l with
 |nil=>simp
 |cons x l ih=>
  have h1:=h x aH;have h2:=ih fun y hy=>h y (aF _ hy);rw[dS];refine⟨by omega,fun _=> ?_⟩;have e:S*((x::l).length:Int)=S+S*l.length:=by simp only[aZ];grind
  rw[e]
  by_cases hl:l=[]
  ·subst hl;simp;omega
  ·have:=h2.2 hl;omega
theorem awv{K:List Int}{t:Int}(hs:0<K.sum):0≤uR K t∧uR K t≤K.length:=by
 have h1:=auc (K:=K) (t:=t);have h2:=afC (l:=rI K t) (S:=K.sum) (fun x hx=>by
  obtain⟨w,_,rfl⟩:=List.mem_map.1 hx;exact⟨fw _ (by omega),dD _ hs⟩)
 have hne:K≠[]:=by intro h;rw[h]at hs;simp at hs
 have h3:=h2.2 (by unfold rI;simpa using hne);have h4:(rI K t).length=K.length:=by unfold rI;simp
 rw[h4,←h1]at h3;have h5:=h2.1;rw[←h1]at h5;have h6:uR K t<K.length:=Int.lt_of_mul_lt_mul_left h3 (by omega);refine⟨?_,by omega⟩;apply Decidable.byContradiction;intro hc;have:=Int.mul_neg_of_pos_of_neg hs (show uR K t<0 by omega);omega
def bump:List Int→List Int→List Int
 |out,[]=>out
 |out,x::l=>bump (out.set x.toNat (ky out x+1)) l
theorem anz:∀{l out:List Int},(bump out l).length=out.length
 |[],_=>rfl
 |x::l,out=>by rw[bump,anz,aP]
theorem anA:∀{l out:List Int},(∀x∈l,0≤x∧x<(out.length:Int))→(bump out l).sum=out.sum+l.length
 |[],out,_=>by simp[bump]
 |x::l,out,h=>by
  have hx:=h x aH;rw[bump,anA (fun y hy=>by rw[aP];exact h y (aF _ hy))];have hk:x.toNat<out.length:=by omega
  have acm:∀(o:List Int) (k:Nat) (v:Int) (hk:k<o.length),(o.set k v).sum=o.sum+(v -o[k]):=by
   intro o
   induction o with
   |nil=>intro k v hk;simp at hk
   |cons a o ih=>
    intro k v hk
    match k,hk with
    |0,_=>simp only[List.set_cons_zero,dS,List.getElem_cons_zero];omega
    |k+1,hk=>
     have:=ih k v (by simpa using hk);simp only[List.set_cons_succ,dS,List.getElem_cons_succ,this];omega
  rw[acm _ _ _ hk];have:ky out x=out[x.toNat]:=by unfold ky;rw[aT hk]
  rw[this];simp only[aZ];omega
theorem anB:∀{l out:List Int} {b:Int},l.Nodup→(∀x∈l,0≤x∧x<(out.length:Int))→(∀i (h:i<out.length),0≤out[i]∧out[i]≤b+(if(i:Int)∈l then -1 else 0))→∀y∈bump out l,0≤y∧y≤b
 |[],out,b,_,_,h,y,hy=>by
  have hy:y∈out:=hy;obtain⟨i,hi,rfl⟩:=aL hy;have:=h i hi;simpa using this
 |x::l,out,b,hn,hv,h,y,hy=>by
  have hx:=hv x aH;have hk:x.toNat<out.length:=by omega
  have hn2:=List.nodup_cons.1 hn;have hky:ky out x=out[x.toNat]:=by unfold ky;rw[aT hk]
  refine anB (l:=l) (out:=out.set x.toNat (ky out x+1)) (b:=b) hn2.2 (fun z hz=>by rw[aP];exact hv z (aF _ hz)) (fun i hi=> ?_) y hy;have hi':i<out.length:=by simpa using hi
  have h1:=h i hi';rw[List.getElem_set]
  by_cases c:x.toNat=i
  ·subst c;rw[if_pos rfl,hky];have e:(x.toNat:Int)=x:=by omega
   rw[e]at h1 ⊢;rw[if_pos aH]at h1;rw[if_neg hn2.1];omega
  ·rw[if_neg c]
   by_cases d:(i:Int)∈l
   ·rw[if_pos (aF _ d)]at h1;rw[if_pos d];exact h1
   ·rw[if_neg d]
    by_cases e:(i:Int)∈x::l
    ·rw[if_pos e]at h1;omega
    ·rw[if_neg e]at h1;exact h1
def Two{α:Type}(H:List (Option (List α)))(x y:Option (Nat×Nat×Nat))(l1 l2:List α):Prop:=∃i a n j b m,x=some (i,a,n)∧y=some (j,b,m)∧i≠j∧sP H x=some l1∧sP H y=some l2
theorem Two.symm{α:Type}{H:List (Option (List α))}{x y:Option (Nat×Nat×Nat)}{l1 l2:List α}(h:Two H x y l1 l2):Two H y x l2 l1:=by
 obtain⟨i,a,n,j,b,m,h1,h2,h3,h4,h5⟩:=h;exact⟨j,b,m,i,a,n,h2,h1,fun h=>h3 h.symm,h5,h4⟩
theorem aww{α:Type}{H:List (Option α)}{i:Nat}{w:α}(h:fP H i=some w):i<H.length:=by
 rw[UB]at h;apply Decidable.byContradiction;intro hc;rw[bx (by omega)]at h
 cases h
theorem aue{α:Type}{H H':List (Option (List α))}{j b m:Nat}{l:List α}(h:sP H (some (j,b,m))=some l)(he:H'[j]? =H[j]?):sP H' (some (j,b,m))=some l:=by
 unfold sP fP at h ⊢;simp only at h ⊢;rw[he];exact h
theorem Two.app{α:Type}{H:List (Option (List α))}{x y:Option (Nat×Nat×Nat)}{l1 l2 m:List α}{b:Nat}(h:Two H x y l1 l2)(hl:l1.length+m.length≤10000000000)(hb:b≤1000):∃H' x',gsA b H x m=some (H',x')∧Two H' x' y (l1++m) l2:=by
 obtain⟨i,a,n,j,b',m',rfl,rfl,h3,h4,h5⟩:=h;obtain⟨w,hw,-,-⟩:=E9 h5;have hj:=aww hw;unfold gsA;simp only[h4];rw[et hl hb];have h6:=afh (H:=H.set i none) (l:=l1++m);rw[aP]at h6;refine⟨_,_,rfl,H.length,0,(l1++m).length,j,b',m',rfl,rfl,by omega,h6,aue h5 ?_⟩;unfold eR;rw[aQ (by rw[aP];exact hj),dw h3]
theorem Two.free{α:Type}{H:List (Option (List α))}{x y:Option (Nat×Nat×Nat)}{l1 l2:List α}(h:Two H x y l1 l2):∃H',gsF H y=some (l2,H')∧sP H' x=some l1:=by
 obtain⟨i,a,n,j,b',m',rfl,rfl,h3,h4,h5⟩:=h;unfold gsF;simp only[h5];exact⟨_,rfl,aue h4 (dw (fun h=>h3 h.symm))⟩
theorem arQ{K o:List Int}(h:Ia K o):o.Nodup:=List.Pairwise.imp (fun{a b} (h:wg K a b) e=>by subst e;exact wg.irr h) h
theorem YR{K:List Int}{t:Int}(hW:WOk K)(ht:1≤t∧t≤4294967296){w:Int}(hw:w∈K):0≤w*t∧w*t≤4611686018427387904∧0≤w*t/K.sum∧w*t/K.sum≤t∧(w*t % K.sum≠0→w*t/K.sum<t)∧0≤w*t % K.sum∧w*t % K.sum<K.sum:=by
 have h1:=hW.2.1 w hw;have h2:=hW.2.2;have h3:w≤K.sum:=afz (fun x hx=>(hW.2.1 x hx).1) hw;have h4:=dq h1.1 (show 0≤t by omega);have h5:=dR h1.2 ht.2 (by omega) (by omega);have h6:=H7 h2 h4;have h7:w*t≤K.sum*t:=ci h3 (by omega);have h8:w*t/K.sum≤t:=by
  have:=Int.ediv_le_ediv h2 h7;rw[Int.mul_ediv_cancel_left _ (by omega)]at this;exact this
 refine⟨h4,by omega,h6.2.2.1,h8,fun hne=> ?_,h6.1,h6.2.1⟩;apply Decidable.byContradiction;intro hc;have h9:w*t/K.sum=t:=by omega
 have h10:=h6.2.2.2;rw[h9]at h10;omega
theorem anC{l:List Int}{f:Int→Int}{i:Nat}(hi:i<l.length)(m:Nat)(hm:i+(m+1)=l.length):
  ((l.map f).take i++ao (m+1) (0:Int)).set i (f l[i])=(l.map f).take (i+1)++ao m 0:=by
 rw[cM,sm (by rw[aC,di];omega),dO,ah (by rw[di];exact hi)];simp
theorem JD{n:Nat}{K:List Int}{t:Int}(hW:WOk K)(ht:1≤t∧t≤4294967296):∀(m k i:Nat),i+m=K.length→m<k→
  tS n k (t,K.sum,(),(),t -kI (qI K t) i,K,(K.length:Int),(i:Int),(qI K t).take i++ao m 0,(rI K t).take i++ao m 0,())=some ((),(),uR K t,qI K t,rI K t,())
 |0,k,i,h1,h2=>by
  obtain⟨k,rfl⟩:=iY k;have hql:(qI K t).length=K.length:=by unfold qI;simp
  have hrl:(rI K t).length=K.length:=by unfold rI;simp
  have:i=K.length:=by omega
  subst this;rw[Dp,af,if_neg (by simp)];have e1:(qI K t).take K.length=qI K t:=bA (by omega);have e2:(rI K t).take K.length=rI K t:=bA (by omega);rw[e1,e2,Ac _ (by omega),e1];simp[uR]
 |m+1,k,i,h1,h2=>by
  obtain⟨k,rfl⟩:=iY k;have hi:i<K.length:=by omega
  have hKl:=hW.1;obtain⟨w,hw⟩:∃w,w=K[i]:=⟨_,rfl⟩;have hwm:w∈K:=by rw[hw];exact ak hi
  obtain⟨q1,q2,q3,q4,-,q6,q7⟩:=YR hW ht hwm;have hs:=hW.2.2;have hsl:=hW.apH;have hql:(qI K t).length=K.length:=by unfold qI;simp
  have hrl:(rI K t).length=K.length:=by unfold rI;simp
  have hsum:=sK (l:=qI K t) (b:=t) (fun x hx=>by
   obtain⟨w,hw,rfl⟩:=List.mem_map.1 hx;have:=YR hW ht hw;exact⟨this.2.2.1,this.2.2.2.1⟩) (i+1) (by omega)
  have aBT:=sK (l:=qI K t) (b:=t) (fun x hx=>by
   obtain⟨w,hw,rfl⟩:=List.mem_map.1 hx;have:=YR hW ht hw;exact⟨this.2.2.1,this.2.2.2.1⟩) i (by omega)
  have hmul:((i+1:Nat):Int)*t≤4096*4294967296:=dR (by omega) ht.2 (by omega) (by omega);have hqi:(qI K t).getD i 0=w*t/K.sum:=by rw[aT (by omega),hw];unfold qI;simp
  have hss:kI (qI K t) (i+1)=kI (qI K t) i+w*t/K.sum:=by show kI (qI K t) i+(qI K t).getD i 0=_;rw[hqi]
  rw[Dp,jK,bj hi,←hw];simp only[aa];rw[aN (x:=w*t),zU (by omega) (by rw[bV q1];omega) (by rw[bV q1];omega),lu,bV q1,pY q1];simp only[aa];have l1:((qI K t).take i++ao (m+1) (0:Int)).length=K.length:=by rw[ag,aC,aY];omega
  have l2:((rI K t).take i++ao (m+1) (0:Int)).length=K.length:=by rw[ag,aC,aY];omega
  rw[ej];simp only[aa];rw[ah (by omega)];simp only[aa];rw[ej];simp only[aa];rw[ah (by omega)];simp only[aa];rw[ej (by rw[aP];omega)];simp only[aa];rw[ah (by rw[aP];omega)];simp only[aa];rw[List.getElem_set_self];have s1:((qI K t).take i++ao (m+1) (0:Int)).set i (w*t/K.sum)=(qI K t).take (i+1)++ao m 0:=by rw[hw];exact anC (f:=fun w=>w*t/K.sum) hi m h1
  have s2:((rI K t).take i++ao (m+1) (0:Int)).set i (w*t % K.sum)=(rI K t).take (i+1)++ao m 0:=by rw[hw];exact anC (f:=fun w=>w*t % K.sum) hi m h1
  rw[s1,s2,aN (x:=t -kI (qI K t) i -w*t/K.sum),aN,show(i:Int)+1=((i+1:Nat):Int)by omega,show t -kI (qI K t) i -w*t/K.sum=t -kI (qI K t) (i+1)by omega];exact JD hW ht m k (i+1) (by omega) (by omega)
theorem aiJ{n:Nat}{pl:List Int}(hp:pl.length≤1000000):∀(m k i:Nat) (out:List Int),i+m=pl.length→m<k→(∀x∈pl,0≤x∧x<(out.length:Int))→(∀y∈out,-1000000000≤y∧y+m≤1000000000000)→
  rB n k ((),pl,(pl.length:Int),(i:Int),out,())=some ((),bump out (pl.drop i),())
 |0,k,i,out,h1,h2,h3,h4=>by
  obtain⟨k,rfl⟩:=iY k;rw[Br,sS,bB (by omega)];rfl
 |m+1,k,i,out,h1,h2,h3,h4=>by
  obtain⟨k,rfl⟩:=iY k;have hi:i<pl.length:=by omega
  have hx:=h3 _ (ak hi);obtain⟨x,hxx⟩:∃x:Nat,pl[i]=(x:Int):=⟨pl[i].toNat,by omega⟩;have hxo:x<out.length:=by omega
  have hy:=h4 _ (ak hxo);rw[Br,jK,bj hi,hxx];simp only[aa];rw[ej hxo];simp only[aa];rw[ah hxo];simp only[aa];rw[aN,aN,show(i:Int)+1=((i+1:Nat):Int)by omega];rw[aiJ hp m k (i+1) _ (by omega) (by omega) (fun y hy=>by rw[aP];exact h3 y hy) (fun y hy=>by
   rcases ev hy with hy |rfl
   ·have:=h4 y hy;omega
   ·omega),bz hi,hxx]
  rw[bump,ax,show ky out (x:Int)=out[x]by unfold ky;rw[ax,aT hxo]]
theorem anD{n:Nat}{o:List Int}{s:Option (Nat×Nat×Nat)}{M:Nat}(hM:M≤o.length)(hp:o.length≤1000000):∀(m k i:Nat) (out:List Int) (H:List (Option (List Int))),i+m=M→m<k→sP H s=some out→(∀x∈o,0≤x∧x<(out.length:Int))→(∀y∈out,-1000000000≤y∧y+m≤1000000000000)→
  ∃H',ql n k (s,(M:Int),o,(i:Int),H,())=some (s,H',())∧sP H' s=some (bump out ((o.take M).drop i))
 |0,k,i,out,H,h1,h2,h3,h4,h5=>by
  obtain⟨k,rfl⟩:=iY k;rw[y6,sS,bB (by rw[aC];omega)];exact⟨H,rfl,h3⟩
 |m+1,k,i,out,H,h1,h2,h3,h4,h5=>by
  obtain⟨k,rfl⟩:=iY k;have hi:i<o.length:=by omega
  have hx:=h4 _ (ak hi);obtain⟨x,hxx⟩:∃x:Nat,o[i]=(x:Int):=⟨o[i].toNat,by omega⟩;have hxo:x<out.length:=by omega
  have hy:=h5 _ (ak hxo);rw[y6,jK,bj hi,hxx];simp only[aa];rw[rdG (i:=x) h3 rfl (ah hxo)];rw[aN (x:=out[x]+1)];obtain⟨H1,a1,a2⟩:=wrG (i:=x) (I:=(x:Int)) (out[x]+1) h3 rfl hxo;rw[a2,aN,show(i:Int)+1=((i+1:Nat):Int)by omega];obtain⟨H2,b1,b2⟩:=anD (n:=n) hM hp m k (i+1) _ H1 (by omega) (by omega) a1 (fun y hy=>by rw[aP];exact h4 y hy) (fun y hy=>by
   rcases ev hy with hy |rfl
   ·have:=h5 y hy;omega
   ·omega)
  have hit:i<(o.take M).length:=by rw[aC];omega
  refine⟨H2,b1,?_⟩;rw[b2,bz hit];have e:(o.take M)[i]=(x:Int):=by rw[List.getElem_take];exact hxx
  rw[e,bump,ax,show ky out (x:Int)=out[x]by unfold ky;rw[ax,aT hxo]]
theorem MB{n:Nat}{K:List Int}{t:Int}(hW:WOk K)(ht:1≤t∧t≤4294967296):∀(m k i:Nat) (H:List (Option (List Int))) (x y:Option (Nat×Nat×Nat)),i+m=K.length→m<k→Two H x y ((qI K t).take i) ((rI K t).take i)→
  ∃H' x' y',rR n k (K,t,K.sum,x,y,t -kI (qI K t) i,(i:Int),H,())=some (x',y',uR K t,H',())∧Two H' x' y' (qI K t) (rI K t)
 |0,k,i,H,x,y,h1,h2,h3=>by
  obtain⟨k,rfl⟩:=iY k;have hql:(qI K t).length=K.length:=by unfold qI;simp
  have hrl:(rI K t).length=K.length:=by unfold rI;simp
  have:i=K.length:=by omega
  subst this;have e1:(qI K t).take K.length=qI K t:=bA (by omega);have e2:(rI K t).take K.length=rI K t:=bA (by omega);rw[e1,e2]at h3;rw[BW,af,if_neg (by simp),Ac _ (by omega),e1];exact⟨H,x,y,rfl,h3⟩
 |m+1,k,i,H,x,y,h1,h2,h3=>by
  obtain⟨k,rfl⟩:=iY k;have hi:i<K.length:=by omega
  have hKl:=hW.1;obtain⟨w,hw⟩:∃w,w=K[i]:=⟨_,rfl⟩;have hwm:w∈K:=by rw[hw];exact ak hi
  obtain⟨q1,q2,q3,q4,-,q6,q7⟩:=YR hW ht hwm;have hs:=hW.2.2;have hsl:=hW.apH;have hql:(qI K t).length=K.length:=by unfold qI;simp
  have hrl:(rI K t).length=K.length:=by unfold rI;simp
  have hb:∀x∈qI K t,0≤x∧x≤t:=fun x hx=>by
   obtain⟨w,hw,rfl⟩:=List.mem_map.1 hx;have:=YR hW ht hw;exact⟨this.2.2.1,this.2.2.2.1⟩
  have hsum:=sK (l:=qI K t) (b:=t) hb (i+1) (by omega);have aBT:=sK (l:=qI K t) (b:=t) hb i (by omega);have hmul:((i+1:Nat):Int)*t≤4096*4294967296:=dR (by omega) ht.2 (by omega) (by omega);have hqe:(qI K t)[i]'(by omega)=w*t/K.sum:=by rw[hw];unfold qI;simp
  have hre:(rI K t)[i]'(by omega)=w*t % K.sum:=by rw[hw];unfold rI;simp
  have hqi:(qI K t).getD i 0=w*t/K.sum:=by rw[aT (by omega),hqe]
  have hss:kI (qI K t) (i+1)=kI (qI K t) i+w*t/K.sum:=by show kI (qI K t) i+(qI K t).getD i 0=_;rw[hqi]
  have t1:(qI K t).take i++[w*t/K.sum]=(qI K t).take (i+1):=by rw[dO,ah (by omega),hqe];rfl
  have t2:(rI K t).take i++[w*t % K.sum]=(rI K t).take (i+1):=by rw[dO,ah (by omega),hre];rfl
  rw[BW,jK,bj hi,←hw];simp only[aa];rw[aN (x:=w*t),zU (by omega) (by rw[bV q1];omega) (by rw[bV q1];omega),lu,bV q1,pY q1];simp only[aa];obtain⟨H1,x1,a1,a2⟩:=h3.app (b:=8) (m:=[w*t/K.sum]) (by rw[aC];simp;omega) (by omega);rw[a1];simp only[aa];obtain⟨H2,y1,b1,b2⟩:=a2.symm.app (b:=8) (m:=[w*t % K.sum]) (by rw[aC];simp;omega) (by omega);rw[b1];simp only[aa];have b3:=b2.symm;rw[t1,t2]at b3;obtain⟨_,_,_,_,_,_,-,-,-,g1,-⟩:=id b3;have hx1:((qI K t).take (i+1))[i]? =some (w*t/K.sum):=by rw[List.getElem?_take_of_lt (by omega),ah (by omega),hqe]
  rw[rdG (i:=i) g1 rfl hx1,aN (x:=t -kI (qI K t) i -w*t/K.sum),aN,show(i:Int)+1=((i+1:Nat):Int)by omega,show t -kI (qI K t) i -w*t/K.sum=t -kI (qI K t) (i+1)by omega];exact MB hW ht m k (i+1) H2 x1 y1 (by omega) (by omega) b3
theorem arR{α:Type}:Two (eR (eR ([]:List (Option (List α))) []) []) (some (0,0,0)) (some (1,0,0)) [] []:=⟨0,0,0,1,0,0,rfl,rfl,by omega,rfl,rfl⟩
theorem shares{n:Nat}{K:List Int}{t:Int}(hn:2000000000≤n)(hW:WOk K)(ht:1≤t∧t≤4294967296):∃w,tR n (K,t)=some (w,0)∧oW n (K,t)=some (w,0)∧w.length=K.length∧(∀x∈w,0≤x∧x≤t)∧w.sum=t:=by
 have hl:=hW.1;have hs:=hW.2.2;have hql:(qI K t).length=K.length:=by unfold qI;simp
 have hrl:(rI K t).length=K.length:=by unfold rI;simp
 have aEq:=awv (K:=K) (t:=t) hs;obtain⟨o,a1,a2,a3⟩:=apG (n:=n) (K:=rI K t) hn (by omega);have J5:o.length=K.length:=by rw[a3.len,hrl]
 have hb:∀x∈qI K t,0≤x∧x≤t:=fun x hx=>by
  obtain⟨w,hw,rfl⟩:=List.mem_map.1 hx;have:=YR hW ht hw;exact⟨this.2.2.1,this.2.2.2.1⟩
 have hov:∀x∈o,0≤x∧x<((qI K t).length:Int):=fun x hx=>by have:=a3.mem hx;omega
 have htv:∀x∈o.take (uR K t).toNat,0≤x∧x<((qI K t).length:Int):=fun x hx=>hov x (dy hx);refine⟨bump (qI K t) (o.take (uR K t).toNat),?_,?_,by rw[anz,hql],?_,?_⟩
 ·rw[aaI,eP];simp only[aa];rw[af,if_neg (by rw[aB,bF,bF];omega),anw hW hn];simp only[aa];rw[show((0:Int)!=0)=false from rfl,cg,gY (m:=K.length) rfl (by omega) (by omega)];simp only[aa];have h1:=JD (n:=n) hW ht K.length n 0 (by omega) (by omega);rw[show((0:Nat):Int)=0 from rfl,fm,fm,bE,show kI (qI K t) 0=0 from rfl,Int.sub_zero]at h1;rw[h1];simp only[aa];rw[a1];simp only[aa];have h2:=we (l:=o) (k:=(uR K t).toNat) (by omega);rw[show(((uR K t).toNat:Nat):Int)=uR K t by omega]at h2;rw[h2];simp only[aa];have E1:(o.take (uR K t).toNat).length=(uR K t).toNat:=by rw[aC];omega
  have h3:=aiJ (n:=n) (pl:=o.take (uR K t).toNat) (by omega) (o.take (uR K t).toNat).length n 0 (qI K t) (by omega) (by omega) htv (fun y hy=>by have:=hb y hy;omega);rw[show((0:Nat):Int)=0 from rfl,dC]at h3;rw[h3];rfl
 ·rw[WT,eP];simp only[aa];rw[af,if_neg (by rw[aB,bF,bF];omega),aiG hW hn];simp only[aa];rw[show((0:Int)!=0)=false from rfl,cg];obtain⟨H,x,y,b1,b2⟩:=MB (n:=n) hW ht K.length n 0 (eR (eR [] []) []) (some (0,0,0)) (some (1,0,0)) (by omega) (by omega) (by rw[fm,fm];exact arR);rw[show((0:Nat):Int)=0 from rfl,show kI (qI K t) 0=0 from rfl,Int.sub_zero]at b1;rw[show ae (α:=(Option (List Int))) (eR [] [])=1 from rfl,b1];simp only[aa];obtain⟨H1,c1,c2⟩:=b2.free;rw[c1];simp only[aa];rw[a2];simp only[aa];obtain⟨H2,d1,d2⟩:=anD (n:=n) (o:=o) (s:=x) (M:=(uR K t).toNat) (by omega) (by omega) (uR K t).toNat n 0 (qI K t) H1 (by omega) (by omega) c2 hov (fun y hy=>by have:=hb y hy;omega);rw[show(((uR K t).toNat:Nat):Int)=uR K t by omega,show((0:Nat):Int)=0 from rfl]at d1;rw[d1];simp only[aa];rw[dC]at d2;obtain⟨H3,e1⟩:=aft d2;rw[e1];rfl
 ·
  have hnd:=(arQ a3.2);have ap6:∀x∈o.take (uR K t).toNat,0<ky (rI K t) x:=by
   intro x hx;apply Decidable.byContradiction;intro hc;obtain⟨i,hi,rfl⟩:=aL hx;rw[aC]at hi;rw[List.getElem_take]at hc;have hio:i<o.length:=by omega
   have hrn:∀z,0≤z∧z<((rI K t).length:Int)→0≤ky (rI K t) z∧ky (rI K t) z<K.sum:=by
    intro z hz;obtain⟨w,hw,hwz⟩:=List.mem_map.1 (afA hz);have:=YR hW ht hw;have hwz:w*t % K.sum=ky (rI K t) z:=hwz;rw[←hwz];exact⟨this.2.2.2.2.2.1,this.2.2.2.2.2.2⟩
   have h0:=hrn _ (a3.mem (ak hio));have hz:∀j (hj:j<o.length),i≤j→ky (rI K t) o[j]=0:=by
    intro j hj hij;have hj0:=hrn _ (a3.mem (ak hj))
    by_cases e:j=i
    ·subst e;omega
    ·have:=xh a3.2 hio hj (by omega);unfold wg at this;unfold ky at hc h0 hj0 ⊢;omega
   have hsum:((o.map (ky (rI K t))).sum)=(rI K t).sum:=by rw[anx (a3.1.map (ky (rI K t))),aiH]
   have aEu:(o.map (ky (rI K t)))=(o.take i).map (ky (rI K t))++(o.drop i).map (ky (rI K t)):=by rw[←eI,cH]
   have hd0:((o.drop i).map (ky (rI K t))).sum=0:=by
    have:∀z∈(o.drop i).map (ky (rI K t)),z=0:=by
     intro z hz';obtain⟨y,hy,rfl⟩:=List.mem_map.1 hz';obtain⟨j,hj,rfl⟩:=aL hy;rw[dI]at hj;rw[List.getElem_drop];exact hz _ (by omega) (by omega)
    generalize(o.drop i).map (ky (rI K t))=l at this
    induction l with
    |nil=>rfl
    |cons a l ih=>rw[dS,this a aH,ih fun z hz=>this z (aF _ hz)];rfl
   have htk:=afC (l:=(o.take i).map (ky (rI K t))) (S:=K.sum) (fun z hz'=>by
    obtain⟨y,hy,rfl⟩:=List.mem_map.1 hz';exact hrn _ (a3.mem (dy hy)))
   rw[aEu,List.sum_append,hd0,Int.add_zero]at hsum;have hme:=auc (K:=K) (t:=t);rw[←hsum]at hme;have hlen:((o.take i).map (ky (rI K t))).length=i:=by rw[di,aC];omega
   rw[hlen]at htk;have hle:((o.take i).map (ky (rI K t))).sum≤K.sum*i:=by
    by_cases e:(o.take i).map (ky (rI K t))=[]
    ·rw[e];simp;exact dq (by omega) (by omega)
    ·have:=htk.2 e;omega
   have hlt:K.sum*i<K.sum*uR K t:=Int.mul_lt_mul_of_pos_left (by omega) hs;omega
  intro x hx;refine anB (l:=o.take (uR K t).toNat) (out:=qI K t) (b:=t) (List.Nodup.sublist (List.take_sublist _ _) hnd) htv (fun i hi=> ?_) x hx;have hiK:i<K.length:=by omega
  have hw:=ak hiK;have hq:=YR hW ht hw;have he:(qI K t)[i]=K[i]*t/K.sum:=List.getElem_map _;rw[he]
  by_cases c:(i:Int)∈o.take (uR K t).toNat
  ·rw[if_pos c];have:=ap6 _ c;have hk:ky (rI K t) (i:Int)=K[i]*t % K.sum:=by unfold ky;rw[ax,aT (by omega)];unfold rI;simp
   rw[hk]at this;have:=hq.2.2.2.2.1 (by omega);omega
  ·rw[if_neg c];omega
 ·rw[anA htv];have:(o.take (uR K t).toNat).length=(uR K t).toNat:=by rw[aC];omega
  rw[this];unfold uR at aEq ⊢;omega
end Go.Am.Pu
