import Derived.Test.YtllhngpojglipaaGreatDoorP1
import Derived.Test.YtllhngpojglipaaGreatDoorGT
set_option linter.unusedVariables false
set_option linter.unusedSimpArgs false
open Bool renaming not_eq_true'→aW
open Int renaming tdiv_eq_ediv_of_nonneg→aK,toNat_natCast→ax
open Go.IntKind renaming bits→b9,wrap→ap
open List renaming length_cons→aZ,length_nil→dz,length_singleton→fO,length→ae
open Nat renaming add_mul→cJ,le_refl→aA,mul_le_mul_right→cv,mul_le_mul→bK
open Option renaming bind_some→aa
namespace Go.Am.Pu
open Go Go.Am
def JO(w:List Int)(fN:Int):Int:=if w.length>1048576 then 81 else if fN<1∨(w.length:Int) % fN≠0 then 80 else 0
theorem amA{w:List Int}{fN:Int}:(av (decide ((((ae w):Nat):Int)>(1048576:Int)))
   (some (81:Int))
   (av (decide (fN<(1:Int)))
    (some (80:Int))
    (((rm (((ae w):Nat):Int) fN)).bind fun v1=>
    av (v1 !=(0:Int))
     (some (80:Int))
     (some (0:Int)))))=some (JO w fN):=by
 simp only[af,bF];unfold JO
 by_cases h1:(w.length:Int)>1048576
 ·have h1':w.length>1048576:=by omega
  rw[if_pos h1,if_pos h1']
 ·have h1':¬ w.length>1048576:=by omega
  rw[if_neg h1,if_neg h1']
  by_cases h2:fN<1
  ·rw[if_pos h2,if_pos (.inl h2)]
  ·rw[if_neg h2,lu,Int.tmod_eq_emod_of_nonneg (by omega)];simp only[aa,bne_iff_ne,ne_eq]
   by_cases h3:(w.length:Int) % fN=0
   ·rw[if_neg (by simpa using h3),if_neg];rintro(h4 |h4)
    ·exact h2 h4
    ·exact h4 h3
   ·rw[if_pos h3,if_pos (.inr h3)]
theorem QA{n:Nat}{w:List Int}{fN:Int}:lA n (w,fN)=some (JO w fN):=by rw[aal];exact amA
theorem HY{n:Nat}{w:List Int}{fN:Int}:mQ n (w,fN)=some (JO w fN):=by rw[Tz];exact amA
theorem W9{w:List Int}{fN:Int}(h:JO w fN=0):w.length≤1048576∧1≤fN∧(w.length:Int) % fN=0:=by
 unfold JO at h
 split at h
 ·cases h
 ·split at h
  ·cases h
  ·rename_i h1 h2;refine⟨by omega,?_,?_⟩
   ·by_cases h3:fN<1
    ·exact absurd (.inl h3) h2
    ·omega
   ·by_cases h3:(w.length:Int) % fN=0
    ·exact h3
    ·exact absurd (.inr h3) h2
def eU(w:List Int)(c j:Nat):List Int:=(w.drop (j*c)).take c
def Xa(w:List Int)(c:Nat)(x:List Int):List Int:=dX (fun j=>yp (eU w c j) x) (w.length/c)
def kW(w:List Int)(fN:Int)(x:List Int):List Int×Int:=
 if JO w fN≠0 then([],JO w fN)else if(x.length:Int)≠fN then([],80)else(Xa w fN.toNat x,0)
theorem MU{l c j:Nat}(h:l % c=0)(hj:j<l/c):j*c+c≤l:=by
 have h1:=Nat.div_add_mod l c;have h2:(j+1)*c≤(l/c)*c:=cv c hj;rw[Nat.succ_mul]at h2;rw[Nat.mul_comm]at h1;omega
theorem uJ{w:List Int}{c j:Nat}(h:w.length % c=0)(hj:j<w.length/c):(eU w c j).length=c:=by
 have:=MU h hj;simp[eU];omega
theorem amB{α β:Type}(f:α→Option β)(g:Nat→α)(r:Nat→β):∀n:Nat,(∀j,j<n→f (g j)=some (r j))→vo f (dX g n)=some (dX r n)
 |0,_=>rfl
 |n+1,h=>by
  rw[oz,oz];exact Vl f _ _ _ _ (amB f g r n fun j hj=>h j (by omega)) (h n (by omega))
theorem aqk{l c:Nat}(hc:1≤c)(h:l % c=0):pcs l c=l/c:=by
 unfold pcs;obtain⟨m,rfl⟩:=Nat.dvd_of_mod_eq_zero h;rw[Nat.mul_div_cancel_left _ (by omega),Nat.add_sub_assoc hc,Nat.mul_add_div (by omega),Nat.div_eq_of_lt (by omega)];omega
theorem Gn{n:Nat}{w x:List Int}{fN:Int}(hw:bc w)(hx:bc x)(hxl:x.length≤1000000000)(hn:2000000000≤n):pB n (w,fN,x)=some (kW w fN x):=by
 show PP (lA n) (z8 n) (w,fN,x)=_;unfold PP kW;simp only;rw[QA];simp only[aa,af,aW,beq_eq_false_iff_ne,ne_eq]
 split
 ·rfl
 ·rename_i h0;have h0:JO w fN=0:=by omega
  obtain⟨h1,h2,h3⟩:=W9 h0
  split
  ·rfl
  ·rename_i h4;have h4:(x.length:Int)=fN:=by omega
   subst h4;rw[if_pos (by simp;omega),ax];have XB:w.length % x.length=0:=by omega
   have hc:1≤x.length:=by omega
   have:chunks x.length w=dX (fun j=>eU w x.length j) (w.length/x.length):=by
    unfold chunks;rw[aqk hc XB];rfl
   rw[this,amB _ _ (fun j=>yp (eU w x.length j) x) _ (fun j hj=>by
    have:=uJ XB hj;exact aqj (hw.sub _ _) hx (by omega) (by omega) hn)]
   rfl
theorem abQ{w:List Int}{c j:Nat}(h:w.length % c=0)(hj:j<w.length/c):slc w ((j*c:Nat):Int) ((j*c:Nat)+(c:Nat):Int)=some (eU w c j):=by
 have:=MU h hj;unfold slc;rw[if_pos ⟨by omega,by omega,by omega⟩];congr 1;unfold eU;rw[show(((j*c:Nat):Int)+(c:Nat)).toNat=j*c+c by omega,ax,List.drop_take];congr 1;omega
theorem xR{n:Nat}{w x:List Int}{fN:Int}(hw:bc w)(hx:bc x)(hn:2000000000≤n):j7 n (w,fN,x)=some (kW w fN x):=by
 rw[WM,HY];unfold kW;simp only[aa,af,bne_iff_ne,ne_eq]
 split
 ·rfl
 ·rename_i h0;have h0:JO w fN=0:=by omega
  obtain⟨h1,h2,h3⟩:=W9 h0
  split
  ·rfl
  ·rename_i h4;have h4:(x.length:Int)=fN:=by omega
   subst h4;have XB:w.length % x.length=0:=by omega
   have hc:1≤x.length:=by omega
   have hq:(w.length/x.length)≤w.length:=Nat.div_le_self _ _;have key:∀(m k j:Nat),j+m=w.length/x.length→m<k→rK n k (w,(x.length:Int),x,dX (fun j=>yp (eU w x.length j) x) j,((j*x.length:Nat):Int),())=some (Xa w x.length x,()):=by
    intro m
    induction m with
    |zero=>
     intro k j h5 h6;obtain⟨k,rfl⟩:∃i,k=i+1:=⟨k -1,by omega⟩;have hj:j=w.length/x.length:=by omega
     rw[BI,af,if_neg]
     ·rw[hj];rfl
     ·have h7:=Nat.div_add_mod w.length x.length;have h8:j*x.length=w.length:=by rw[hj,Nat.mul_comm];omega
      rw[h8];simp
    |succ m ih=>
     intro k j h5 h6;obtain⟨k,rfl⟩:∃i,k=i+1:=⟨k -1,by omega⟩;have hj:j<w.length/x.length:=by omega
     have h7:=MU XB hj;rw[BI];simp only[af,bF];rw[lK,aN,abQ XB hj];simp only[aa];have h8:=uJ XB hj;rw[aid (a:=eU w x.length j) (hw.sub _ _) hx (by omega) (by omega) hn];simp only[aa];rw[fL (fun j=>yp (eU w x.length j) x) (by unfold room;omega) (by unfold room;omega)];simp only[aa];have:=ih k (j+1) (by omega) (by omega);rw[Nat.succ_mul]at this;exact this
   have:=key (w.length/x.length) n 0 (by omega) (by omega);rw[Nat.zero_mul]at this;rw[show(([]:List Int))=dX (fun j=>yp (eU w x.length j) x) 0 from rfl,show(0:Int)=((0:Nat):Int)from rfl,this];rfl
def amC(a:List Int):Int:=if a.length>1048576 then 81 else 0
def HZ(a b:List Int):Int:=if a.length>1048576∨b.length>1048576 then 81 else if a.length≠b.length then 80 else 0
theorem amD{n:Nat}(hn:10≤n){a:List Int}:k0 n [a]=some (amC a):=by
 obtain⟨k,rfl⟩:∃k,n=k+4:=⟨n -4,by omega⟩;rw[Bg,jh];simp only[af,fO];rw[if_pos (by simp),show idx [a] (0:Int)=some a from rfl];simp only[aa,bF];unfold amC
 by_cases h:(a.length:Int)>1048576
 ·rw[if_pos h,lK];rfl
 ·rw[if_neg h,gG,aN (by decide) (by decide),jh,af,if_neg (by simp)];simp only[aa,cY];rw[ji];simp only[af,fO];rw[if_pos (by simp),show idx [a] (0:Int)=some a from rfl];simp only[aa];rw[if_neg (by simp),aN (by decide) (by decide),ji,af,if_neg (by simp)];rfl
theorem amE{n:Nat}(hn:10≤n){a b:List Int}:k0 n [a,b]=some (HZ a b):=by
 obtain⟨k,rfl⟩:∃k,n=k+4:=⟨n -4,by omega⟩;have e0:idx [a,b] (0:Int)=some a:=rfl;have e1:idx [a,b] (1:Int)=some b:=rfl;have d1:ap .i64 ((0:Int)+1)=1:=aN (by decide) (by decide);have d2:ap .i64 ((1:Int)+1)=2:=aN (by decide) (by decide);rw[Bg,jh];simp only[af,aZ,dz];rw[if_pos (by simp),e0];simp only[aa,bF];unfold HZ
 by_cases h:(a.length:Int)>1048576
 ·rw[if_pos h,lK];rfl
 ·rw[if_neg h,d1,jh];simp only[af];rw[if_pos (by simp),e1];simp only[aa,bF]
  by_cases h':(b.length:Int)>1048576
  ·rw[if_pos h',lK];rfl
  ·rw[if_neg h',gG,d2,jh,af,if_neg (by simp)];simp only[aa,cY];rw[ji];simp only[af,aZ,dz];rw[if_pos (by simp),e0];simp only[aa];rw[if_neg (by simp),d1,ji];simp only[af];rw[if_pos (by simp),e1,e0];simp only[aa,bne_iff_ne,ne_eq]
   by_cases h3:(b.length:Int)=(a.length:Int)
   ·rw[if_neg (by simpa using h3),gG,d2,ji,af,if_neg (by simp)];rfl
   ·rw[if_pos h3,lK];rfl
def jL(l:List Int)(s:Int):List Int×Int:=if amC l≠0 then([],amC l)else if s<0∨s>62 then([],20)else(l.map (fun x=>(cq x s).1),0)
theorem MV{n:Nat}{l:List Int}{s:Int}(hl:iI l)(hn:2000000000≤n):pC n (l,s)=some (jL l s):=by
 rw[adN,amD (by omega)];unfold jL;simp only[aa,af,bne_iff_ne,ne_eq]
 split
 ·rfl
 ·rename_i h0;have h1:l.length≤1048576:=by
   unfold amC at h0
   split at h0<;>omega
  rw[nA (by omega) (by omega)];simp only[aa]
  by_cases hs:s<0∨s>62
  ·rw[if_pos hs];have:(cq 0 s)=(0,20):=by unfold cq;rw[if_pos hs]
   rw[this];rfl
  ·rw[if_neg hs];have h2:∀x,(cq x s).2=0:=fun x=>by unfold cq;rw[if_neg hs]
   rw[h2 0,gG];have hm:Cl 8 (l.length:Int)=some l.length:=by
    unfold Cl room;rw[if_pos ⟨by omega,by omega,by omega⟩];simp
   rw[hm];simp only[aa];have hL:=aX (L:=fun k i o=>oJ n k (s,(),l,(l.length:Int),i,o,())) (len:=l.length) (r:=((),l.map (fun x=>(cq x s).1),())) (fun i=>fill (fun j=>(cq (l.getD j 0) s).1) 0 l.length i) ?_ ?_ n (by omega)
   ·rw[wa]at hL;rw[hL];rfl
   ·intro k i hi;show oJ n (k+1) _=_;rw[F5];simp only[af,bF];have h3:=hl.at i;rw[lK,bm hi 0];simp only[aa];rw[nA h3.1 h3.2,HX _ _ hi];simp only[aa];rw[B6 _ _ hi,B5 _ _ hi,aN];rfl
   ·intro k;show oJ n (k+1) _=_;rw[F5,af,if_neg (by simp),Gm,T8 (fun x=>(cq x s).1)]
theorem DO{n:Nat}{l:List Int}{s:Int}(hl:iI l)(hn:2000000000≤n):l6 n (l,s)=some (jL l s):=by
 rw[WN];unfold jL amC;simp only[af,bF]
 by_cases h1:(l.length:Int)>1048576
 ·have h1':l.length>1048576:=by omega
  rw[if_pos h1,if_pos h1',if_pos (show(81:Int)≠0 by decide)]
 ·have h1':¬ l.length>1048576:=by omega
  rw[if_neg h1,if_neg h1',if_neg (show ¬ (0:Int)≠0 by decide)]
  by_cases h2:s<0
  ·rw[if_pos h2,if_pos (.inl h2)]
  ·rw[if_neg h2]
   by_cases h3:s>62
   ·rw[if_pos h3,if_pos (.inr h3)]
   ·rw[if_neg h3,gG];have hL:=aX (L:=fun k i o=>lf n k (s,o,l,(l.length:Int),i,())) (len:=l.length) (r:=(l.map (fun x=>(cq x s).1),())) (fun i=>dX (fun j=>(cq (l.getD j 0) s).1) i) ?_ ?_ n (by omega)
    ·rw[eS]at hL;rw[hL];rfl
    ·intro k i hi;show lf n (k+1) _=_;rw[BJ];simp only[af,bF];have h3:=hl.at i;rw[lK,bm hi 0];simp only[aa];rw[pU (by omega) h3.1 h3.2];simp only[aa];rw[fL (fun j=>(cq (l.getD j 0) s).1) (by unfold room;omega) (by unfold room;omega),aN];rfl
    ·intro k;show lf n (k+1) _=_;rw[BJ,af,if_neg (by simp),T8 (fun x=>(cq x s).1)]
def zV(l:List Int)(s:Int):List Int×Int:=((jL l s).1.map fF,(jL l s).2)
theorem QB{l:List Int}{s:Int}:(jL l s).1.length≤1048576∧((jL l s).2≠0→(jL l s).1=[]):=by
 unfold jL amC
 by_cases h1:l.length>1048576
 ·rw[if_pos h1,if_pos (show(81:Int)≠0 by decide)];exact⟨by simp,fun _=>rfl⟩
 ·rw[if_neg h1,if_neg (show ¬ (0:Int)≠0 by decide)]
  split
  ·exact⟨by simp,fun _=>rfl⟩
  ·exact⟨by simp;omega,fun h=>absurd rfl h⟩
theorem aeM{n:Nat}{l:List Int}{s:Int}(hl:iI l)(hn:2000000000≤n):tD n (l,s)=some (zV l s):=by
 rw[aas,MV hl hn];unfold zV;obtain⟨h1,h2⟩:=QB (l:=l) (s:=s);generalize jL l s=q at h1 h2;obtain⟨l,e⟩:=q;simp only[aa,af,bne_iff_ne,ne_eq]at h1 h2 ⊢
 split
 ·rename_i h;rw[h2 h];rfl
 ·rename_i h;have hm:Cl 1 (l.length:Int)=some l.length:=by
   unfold Cl room;rw[if_pos ⟨by omega,by omega,by omega⟩];simp
  rw[hm];simp only[aa];have hL:=aX (L:=fun k i o=>mF n k ((),l,(l.length:Int),i,o,())) (len:=l.length) (r:=((),l.map fF,())) (fun i=>fill (fun j=>fF (l.getD j 0)) 0 l.length i) ?_ ?_ n (by omega)
  ·rw[wa]at hL;rw[hL];have:e=0:=by omega
   rw[this];rfl
  ·intro k i hi;show mF n (k+1) _=_;rw[Dj];simp only[af,bF];rw[lK,bm hi 0];simp only[aa];rw[uH,HX _ _ hi];simp only[aa];rw[B6 _ _ hi,B5 _ _ hi,aN];rfl
  ·intro k;show mF n (k+1) _=_;rw[Dj,af,if_neg (by simp),Gm,T8 fF]
theorem Ua{n:Nat}{l:List Int}{s:Int}(hl:iI l)(hn:2000000000≤n):pM n (l,s)=some (zV l s):=by
 rw[TC,DO hl hn];unfold zV;obtain⟨h1,h2⟩:=QB (l:=l) (s:=s);generalize jL l s=q at h1 h2;obtain⟨l,e⟩:=q;simp only[aa]at h1 h2 ⊢;have hL:=aX (L:=fun k i o=>kg n k (e,o,l,(l.length:Int),i,())) (len:=l.length) (r:=(e,l.map fF,())) (fun i=>dX (fun j=>fF (l.getD j 0)) i) ?_ ?_ n (by omega)
 ·rw[eS]at hL;rw[hL];rfl
 ·intro k i hi;show kg n (k+1) _=_;rw[yT];simp only[af,bF];rw[lK,bm hi 0];simp only[aa];rw[uI];simp only[aa];rw[fL (fun j=>fF (l.getD j 0)) (by unfold room;omega) (by unfold room;omega),aN];rfl
 ·intro k;show kg n (k+1) _=_;rw[yT,af,if_neg (by simp),T8 fF]
theorem least{p:Nat→Prop}:∀n,p n→∃i,p i∧(∀j,j<i→¬ p j)∧i≤n:=by
 intro n
 induction n using Nat.strongRecOn with
 |_ n ih=>
  intro h
  by_cases h2:∃j,j<n∧p j
  ·obtain⟨j,h3,h4⟩:=h2;obtain⟨i,a,b,c⟩:=ih j h3 h4;exact⟨i,a,b,by omega⟩
  ·exact⟨n,h,fun j hj hp=>h2 ⟨j,hj,hp⟩,aA _⟩
def oA(a b:List Int)(i:Nat):Int×Bool:=akz (a.getD i 0) (b.getD i 0)
open Classical in
noncomputable def Ub(a b:List Int):List Int×Int:=
 if HZ a b≠0 then([],HZ a b)else if ∃i,i<a.length∧(oA a b i).2=false then([],82)else(dX (fun i=>(oA a b i).1) a.length,0)
theorem aie{a b:List Int}(h:HZ a b=0):a.length≤1048576∧b.length≤1048576∧a.length=b.length:=by
 unfold HZ at h
 split at h
 ·cases h
 ·split at h
  ·cases h
  ·omega
theorem aql{n:Nat}{a b:List Int}(ha:iI a)(hb:iI b)(hn:2000000000≤n):Fv n (a,b)=some (Ub a b):=by
 rw[ajG,amE (by omega)];unfold Ub;simp only[aa,af,bne_iff_ne,ne_eq]
 by_cases h0:HZ a b=0
 ·obtain⟨h1,h2,h3⟩:=aie h0;rw[if_neg (by simpa using h0),if_neg (by simpa using h0)];have hm:Cl 8 (a.length:Int)=some a.length:=by
   unfold Cl room;rw[if_pos ⟨by omega,by omega,by omega⟩];simp
  rw[hm];simp only[aa];have step:∀k i:Nat,i<a.length→ny n (k+1) (b,(),a,(a.length:Int),(i:Int),fill (fun j=>(oA a b j).1) 0 a.length i,())=
    if(oA a b i).2=false then some (Sum.inl ([],82,()))else ny n k (b,(),a,(a.length:Int),(i:Int)+1,fill (fun j=>(oA a b j).1) 0 a.length (i+1),()):=by
   intro k i hi;rw[LX];simp only[af,bF];have h4:=ha.at i;have h5:=hb.at i;rw[lK,bm hi 0,bm (show i<b.length by omega) 0];simp only[aa];rw[aro h4.1 h4.2 h5.1 h5.2,HX _ _ hi];simp only[aa];rw[B6 _ _ hi,aN];simp only[aa];rw[show akz (a.getD i 0) (b.getD i 0)=oA a b i from rfl,B5 (fun j=>(oA a b j).1) _ hi];simp only[aW]
  by_cases hex:∃i,i<a.length∧(oA a b i).2=false
  ·rw[if_pos hex];obtain⟨i0,hi0,hb0⟩:=hex;obtain⟨i,hi,hlt,hle⟩:=least (p:=fun i=>(oA a b i).2=false) i0 hb0;have hL:=aX (L:=fun k i o=>ny n k (b,(),a,(a.length:Int),i,o,())) (len:=i) (r:=Sum.inl ([],82,())) (fun i=>fill (fun j=>(oA a b j).1) 0 a.length i)
    (fun k j hj=>by rw[step k j (by omega),if_neg (hlt j hj)]) (fun k=>by rw[step k i (by omega),if_pos hi]) n (by omega)
   rw[wa]at hL;rw[hL];rfl
  ·rw[if_neg hex];have hL:=aX (L:=fun k i o=>ny n k (b,(),a,(a.length:Int),i,o,())) (len:=a.length) (r:=Sum.inr ((),dX (fun i=>(oA a b i).1) a.length,())) (fun i=>fill (fun j=>(oA a b j).1) 0 a.length i)
    (fun k j hj=>by rw[step k j hj,if_neg (fun h=>hex ⟨j,hj,h⟩)]) (fun k=>by
     show ny n (k+1) _=_;rw[LX,af,if_neg (by simp),Gm]) n (by omega)
   rw[wa]at hL;rw[hL];rfl
 ·rw[if_pos (by simpa using h0),if_pos (by simpa using h0)]
theorem aif{n:Nat}{a b:List Int}(ha:iI a)(hb:iI b)(hn:2000000000≤n):xy n (a,b)=some (Ub a b):=by
 rw[ad9];unfold Ub;simp only[af,bF,bne_iff_ne,ne_eq]
 by_cases g1:(a.length:Int)>1048576
 ·have e:HZ a b=81:=by unfold HZ;rw[if_pos (.inl (by omega))]
  rw[if_pos g1,e];rfl
 ·rw[if_neg g1]
  by_cases g2:(b.length:Int)>1048576
  ·have e:HZ a b=81:=by unfold HZ;rw[if_pos (.inr (by omega))]
   rw[if_pos g2,e];rfl
  ·rw[if_neg g2]
   by_cases g3:(a.length:Int)=(b.length:Int)
   ·have h0:HZ a b=0:=by unfold HZ;rw[gG,gG]
    rw[if_neg (by simpa using g3),h0,if_neg (show ¬ ¬ (0:Int)=0 by simp)];have step:∀k i:Nat,i<a.length→j8 n (k+1) (a,b,dX (fun j=>(oA a b j).1) i,(a.length:Int),(i:Int),())=
      if(oA a b i).2=false then some (Sum.inl ([],82,()))else j8 n k (a,b,dX (fun j=>(oA a b j).1) (i+1),(a.length:Int),(i:Int)+1,()):=by
     intro k i hi;rw[Gf];simp only[af,bF];have h4:=ha.at i;have h5:=hb.at i;rw[lK,bm hi 0,bm (show i<b.length by omega) 0];simp only[aa];rw[arp h4.1 h4.2 h5.1 h5.2];simp only[aa];rw[show akz (a.getD i 0) (b.getD i 0)=oA a b i from rfl,fL (fun j=>(oA a b j).1) (by unfold room;omega) (by unfold room;omega),aN];simp only[aa,aW]
    by_cases hex:∃i,i<a.length∧(oA a b i).2=false
    ·rw[if_pos hex];obtain⟨i0,hi0,hb0⟩:=hex;obtain⟨i,hi,hlt,hle⟩:=least (p:=fun i=>(oA a b i).2=false) i0 hb0;have hL:=aX (L:=fun k i o=>j8 n k (a,b,o,(a.length:Int),i,())) (len:=i) (r:=Sum.inl ([],82,())) (fun i=>dX (fun j=>(oA a b j).1) i)
      (fun k j hj=>by rw[step k j (by omega),if_neg (hlt j hj)]) (fun k=>by rw[step k i (by omega),if_pos hi]) n (by omega)
     rw[eS]at hL;rw[hL];rfl
    ·rw[if_neg hex];have hL:=aX (L:=fun k i o=>j8 n k (a,b,o,(a.length:Int),i,())) (len:=a.length) (r:=Sum.inr (dX (fun i=>(oA a b i).1) a.length,())) (fun i=>dX (fun j=>(oA a b j).1) i)
      (fun k j hj=>by rw[step k j hj,if_neg (fun h=>hex ⟨j,hj,h⟩)]) (fun k=>by
       show j8 n (k+1) _=_;rw[Gf,af,if_neg (by simp)]) n (by omega)
     rw[eS]at hL;rw[hL];rfl
   ·have e:HZ a b=80:=by unfold HZ;rw[gG,lK]
    rw[if_pos g3,e];rfl
theorem ayX{a:Nat}{j:Nat}(ha:(a+1)*2^(j+1)≤9223372036854775808):sU .or .i64 ((a*2^(j+1):Nat):Int) ((2^j:Nat):Int)=((a*2^(j+1)+2^j:Nat):Int):=by
 have hp:2^j<2^(j+1):=Nat.pow_lt_pow_right (by omega) (by omega);have hs:a*2^(j+1)+2^j<9223372036854775808:=by
  rw[cJ]at ha;omega
 have h:(BitVec.ofInt (b9 .i64) ((a*2^(j+1):Nat):Int) ||| BitVec.ofInt (b9 .i64) ((2^j:Nat):Int)).toNat=a*2^(j+1)+2^j:=by
  show(BitVec.ofInt 64 ((a*2^(j+1):Nat):Int) ||| BitVec.ofInt 64 ((2^j:Nat):Int)).toNat=_;rw[BitVec.toNat_or,BitVec.ofInt_natCast,BitVec.ofInt_natCast,BitVec.toNat_ofNat,BitVec.toNat_ofNat,Nat.mod_eq_of_lt (by omega),Nat.mod_eq_of_lt (by omega)];rw[Nat.mul_comm,Nat.two_pow_add_eq_or_of_lt hp]
 show ap .i64 (((BitVec.ofInt (b9 .i64) ((a*2^(j+1):Nat):Int) ||| BitVec.ofInt (b9 .i64) ((2^j:Nat):Int)).toNat:Nat):Int)=_;rw[h,aN]
def wb(x:Int)(r:Nat)(j:Nat):Nat:=if r+2^j≤3037000499∧((r+2^j:Nat):Int)*((r+2^j:Nat):Int)≤x then r+2^j else r
def sq(x:Int):Nat→Nat→Nat
 |0,r=>r
 |j+1,r=>sq x j (wb x r j)
def Me:Nat→Nat
 |0=>0
 |j+1=>2^j
theorem aeN(m:Nat):2^m/2=Me m:=by
 cases m with
 |zero=>rfl
 |succ m=>show 2^(m+1)/2=2^m;rw[Nat.pow_succ];omega
theorem aoK{x:Int}{m r a:Nat}(hr:r=a*2^(m+1))(hb:(a+1)*2^(m+1)≤4294967296):∃a',wb x r m=a'*2^m∧(a'+1)*2^m≤4294967296:=by
 unfold wb;rw[Nat.pow_succ,←Nat.mul_assoc]at hb hr;rw[cJ]at hb
 split
 ·refine⟨2*a+1,?_,?_⟩
  ·rw[hr,cJ,Nat.mul_assoc 2 a];omega
  ·rw[cJ,cJ,Nat.mul_assoc 2 a];omega
 ·refine⟨2*a,?_,?_⟩
  ·rw[hr,Nat.mul_assoc 2 a];omega
  ·rw[cJ,Nat.mul_assoc 2 a];omega
theorem aoL{s:Nat}:s≤3037000499↔s*s≤9223372036854775807:=by
 constructor
 ·intro h;have:=bK h h;omega
 ·intro h
  by_cases h2:s≤3037000499
  ·exact h2
  ·have:=bK (show 3037000500≤s by omega) (show 3037000500≤s by omega);omega
theorem aqm{m:Nat}{a:Nat}(hb:(a+1)*2^m≤4294967296):2^m≤4294967296∧0<2^m:=by
 refine⟨?_,Nat.two_pow_pos m⟩;have:=Nat.le_mul_of_pos_left (2^m) (show 0<a+1 by omega);omega
theorem rW{n:Nat}{x:Int}:∀(m k r a:Nat),r=a*2^m→(a+1)*2^m≤4294967296→m<k→pz n k (x,(r:Int),(Me m:Int),())=some (((sq x m r:Nat):Int),())
 |0,k,r,a,h1,h2,h3=>by
  obtain⟨k,rfl⟩:∃i,k=i+1:=⟨k -1,by omega⟩;rw[Di,af,if_neg (by simp[Me])];rfl
 |m+1,k,r,a,h1,h2,h3=>by
  obtain⟨k,rfl⟩:∃i,k=i+1:=⟨k -1,by omega⟩;have hp:=aqm h2;obtain⟨a',h4,h5⟩:=aoK (x:=x) h1 h2;have hp2:=aqm h5;rw[Di];simp only[af,bF];rw[show Me (m+1)=2^m from rfl,lK];have ho:sU .or .i64 (r:Int) ((2^m:Nat):Int)=((r+2^m:Nat):Int):=by
   rw[h1];exact ayX (by omega)
  rw[ho];obtain⟨s,hs⟩:∃s,s=r+2^m:=⟨_,rfl⟩;have aDN:s<4294967296:=by
   rw[hs,h1];rw[cJ]at h2;have:2^m<2^(m+1):=Nat.pow_lt_pow_right (by omega) (by omega);omega
  rw[←hs];obtain⟨d,hd⟩:∃d,d=9223372036854775807/s:=⟨_,rfl⟩;have hle:d≤9223372036854775807:=by rw[hd];exact Nat.div_le_self _ _
  have hq:qt .i64 9223372036854775807 (s:Int)=some (d:Int):=by
   have e:(9223372036854775807:Int).tdiv (s:Int)=(d:Int):=by
    rw[aK (by omega),hd];rfl
   rw[zU (by omega) (by rw[e];omega) (by rw[e];omega),e]
  rw[hq];simp only[aa];have hsh:vm .i64 ((2^m:Nat):Int) 1=some ((Me m:Nat):Int):=by
   unfold vm;rw[gG];show some (((2^m:Nat):Int).fdiv 2)=_;rw[Int.fdiv_eq_ediv_of_nonneg _ (by omega),←aeN];rfl
  have hss:((s:Int)≤(d:Int))↔s≤3037000499:=by
   rw[aoL,←Nat.le_div_iff_mul_le (by omega),←hd];omega
  have hsq:wb x r m=if s≤3037000499∧(s:Int)*(s:Int)≤x then s else r:=by unfold wb;rw[←hs]
  by_cases c1:s≤3037000499
  ·rw[if_pos (hss.2 c1)];have hmm:=aoL.1 c1;have hmi:(s:Int)*(s:Int)=((s*s:Nat):Int):=by simp
   rw[aN (by rw[hmi];omega) (by rw[hmi];omega)]
   by_cases c2:(s:Int)*(s:Int)≤x
   ·rw[if_pos c2];simp only[aa];rw[hsh];simp only[aa];rw[if_pos ⟨c1,c2⟩]at hsq;have:=rW (n:=n) (x:=x) m k s a' (by rw[←h4,hsq]) h5 (by omega);rw[this,show sq x (m+1) r=sq x m (wb x r m)from rfl,hsq]
   ·rw[if_neg c2];simp only[aa];rw[hsh];simp only[aa];rw[if_neg (fun h=>c2 h.2)]at hsq;have:=rW (n:=n) (x:=x) m k r a' (by rw[←h4,hsq]) h5 (by omega);rw[this,show sq x (m+1) r=sq x m (wb x r m)from rfl,hsq]
  ·rw[if_neg (fun h=>c1 (hss.1 h))];rw[hsh];simp only[aa];rw[if_neg (fun h=>c1 h.1)]at hsq;have:=rW (n:=n) (x:=x) m k r a' (by rw[←h4,hsq]) h5 (by omega);rw[this,show sq x (m+1) r=sq x m (wb x r m)from rfl,hsq]
theorem rX{n:Nat}{x:Int}:∀(m k r a:Nat),r=a*2^m→(a+1)*2^m≤4294967296→m<k→pK n k (x,(r:Int),(Me m:Int),())=some (((sq x m r:Nat):Int),())
 |0,k,r,a,h1,h2,h3=>by
  obtain⟨k,rfl⟩:∃i,k=i+1:=⟨k -1,by omega⟩;rw[Dv,af,if_neg (by simp[Me])];rfl
 |m+1,k,r,a,h1,h2,h3=>by
  obtain⟨k,rfl⟩:∃i,k=i+1:=⟨k -1,by omega⟩;have hp:=aqm h2;obtain⟨a',h4,h5⟩:=aoK (x:=x) h1 h2;have hp2:=aqm h5;rw[Dv];simp only[af,bF];rw[show Me (m+1)=2^m from rfl,lK];obtain⟨s,hs⟩:∃s,s=r+2^m:=⟨_,rfl⟩;have aDN:s<4294967296:=by
   rw[hs,h1];rw[cJ]at h2;have:2^m<2^(m+1):=Nat.pow_lt_pow_right (by omega) (by omega);omega
  have hi:(r:Int)+((2^m:Nat):Int)=(s:Int):=by rw[hs];simp
  rw[hi,aN (x:=(s:Int))];have hq:qt .i64 ((2^m:Nat):Int) 2=some ((Me m:Nat):Int):=by
   have e:(((2^m:Nat):Int)).tdiv 2=((2^m/2:Nat):Int):=by
    rw[aK (by omega)];rfl
   rw[zU (by omega) (by rw[e];omega) (by rw[e];omega),e,aeN]
  have hsq:wb x r m=if s≤3037000499∧(s:Int)*(s:Int)≤x then s else r:=by unfold wb;rw[←hs]
  by_cases c1:s≤3037000499
  ·rw[lK];have hmm:=aoL.1 c1;have hmi:(s:Int)*(s:Int)=((s*s:Nat):Int):=by simp
   rw[aN (by rw[hmi];omega) (by rw[hmi];omega)]
   by_cases c2:(s:Int)*(s:Int)≤x
   ·rw[if_pos c2];simp only[aa];rw[hq];simp only[aa];rw[if_pos ⟨c1,c2⟩]at hsq;have:=rX (n:=n) (x:=x) m k s a' (by rw[←h4,hsq]) h5 (by omega);rw[this,show sq x (m+1) r=sq x m (wb x r m)from rfl,hsq]
   ·rw[if_neg c2];simp only[aa];rw[hq];simp only[aa];rw[if_neg (fun h=>c2 h.2)]at hsq;have:=rX (n:=n) (x:=x) m k r a' (by rw[←h4,hsq]) h5 (by omega);rw[this,show sq x (m+1) r=sq x m (wb x r m)from rfl,hsq]
  ·rw[gG];simp only[aa];rw[hq];simp only[aa];rw[if_neg (fun h=>c1 h.1)]at hsq;have:=rX (n:=n) (x:=x) m k r a' (by rw[←h4,hsq]) h5 (by omega);rw[this,show sq x (m+1) r=sq x m (wb x r m)from rfl,hsq]
theorem aqn:∃f:Int→Int,∀x,f x=((sq x 32 0:Nat):Int):=⟨_,fun _=>rfl⟩
noncomputable def aig:Int→Int:=Classical.choose aqn
theorem aeO(x:Int):aig x=((sq x 32 0:Nat):Int):=Classical.choose_spec aqn x
theorem atu{x:Int}:∀(m r a:Nat),r=a*2^m→(a+1)*2^m≤4294967296→sq x m r<4294967296
 |0,r,a,h1,h2=>by show r<_;omega
 |m+1,r,a,h1,h2=>by
  obtain⟨a',h4,h5⟩:=aoK (x:=x) h1 h2;exact atu m _ a' h4 h5
theorem aih(x:Int):0≤aig x∧aig x<4294967296:=by
 have:=atu (x:=x) 32 0 0 (by simp) (by decide);rw[aeO];omega
theorem aoM{n:Nat}(hn:100≤n){x:Int}(hx:0≤x):zj n x=some (aig x,0):=by
 rw[aar,af,if_neg (by simp;omega)];have:=rW (n:=n) (x:=x) 32 n 0 0 (by simp) (by decide) (by omega);rw[show((Me 32:Nat):Int)=2147483648 from rfl]at this;rw[show((0:Nat):Int)=0 from rfl]at this;rw[this,aeO];rfl
theorem aoN{n:Nat}(hn:100≤n){x:Int}(hx:0≤x):zB n x=some (aig x,0):=by
 rw[aaQ,af,if_neg (by simp;omega)];have:=rX (n:=n) (x:=x) 32 n 0 0 (by simp) (by decide) (by omega);rw[show((Me 32:Nat):Int)=2147483648 from rfl]at this;rw[show((0:Nat):Int)=0 from rfl]at this;rw[this,aeO];rfl
end Go.Am.Pu
