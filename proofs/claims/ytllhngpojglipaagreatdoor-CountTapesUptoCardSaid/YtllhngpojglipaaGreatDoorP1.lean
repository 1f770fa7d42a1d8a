import Derived.Test.YtllhngpojglipaaGreatDoorA1
import Derived.Test.YtllhngpojglipaaGreatDoorE1
import Derived.Test.YtllhngpojglipaaGreatDoorE2
import Derived.Test.YtllhngpojglipaaGreatDoorE3
import Derived.Test.YtllhngpojglipaaGreatDoorD
import Derived.KernelRfl
import Derived.Test.YtllhngpojglipaaGreatDoorGT
set_option linter.unusedVariables false
set_option linter.unusedSimpArgs false
open Bool renaming false_eq_true→cn,not_eq_true'→aZ
open Int renaming ediv_emod_unique→afu,ediv_nonneg→e7,emod_lt_of_pos→dz,emod_nonneg→e9,mul_comm→aa5,mul_ediv_add_emod→dN,mul_le_mul_of_nonneg_left→ci,mul_le_mul_of_nonneg_right→bP,mul_le_mul→dA,mul_nonneg→cp,pow_succ→c9,tdiv_eq_ediv_of_nonneg→aK,toNat_natCast→ax
open Go.IntKind renaming bits→b9,i64→bz,signed→fH,wrap→ae
open List renaming getD_eq_getElem?_getD→aB,getElem?_append_right→bc,getElem?_cons_zero→eK,getElem?_eq_none→bd,getElem_mem→am,length_cons→bg,length_nil→dr,length_singleton→bZ,length→af,mem_of_mem_take→cS,replicate_succ→cH,replicate→ao
open Nat renaming add_mul→cF,le_refl→az,mul_le_mul_right→cv,mul_le_mul→bD
open Option renaming bind_some→aa
namespace Go.Am.Pu
open Go Go.Am
abbrev Hn0(n:Nat):Prop:=2000000000≤n
theorem bx{p:Prop}[Decidable p]:(decide p=true)=p:=decide_eq_true_eq
theorem gk{c:Prop}{i:Decidable c}{R:Type}{x y:R}(h:¬ c:=by omega):ite c x y=y:=if_neg h
theorem lf{c:Prop}{i:Decidable c}{R:Type}{x y:R}(h:c:=by omega):ite c x y=x:=if_pos h
theorem gU(k:Nat)(h:0<k:=by omega):∃j,k=j+1:=⟨k -1,by omega⟩
theorem aN{x:Int}(a: -9223372036854775808≤x:=by omega)(b:x≤9223372036854775807:=by omega):ae .i64 x=x:=by
 simp only[ae,b9,fH,Bool.true_and,decide_eq_true_eq,ge_iff_le]
 split<;>omega
theorem w8{x:Int}(a: -128≤x)(b:x≤127):ae .i8 x=x:=by
 simp only[ae,b9,fH,Bool.true_and,bx,ge_iff_le]
 split<;>omega
theorem ag{R:Type}(b:Bool)(x y:Option R):av b x y=if b=true then x else y:=by cases b<;>rfl
theorem bN0{p:Prop}[Decidable p]{R:Type}{x y:Option R}(h:¬ p:=by omega):av (decide p) x y=y:=by rw[ag,if_neg (by simpa using h)]
theorem bP0{p:Prop}[Decidable p]{R:Type}{x y:Option R}(h:p:=by omega):av (decide p) x y=x:=by rw[ag,if_pos (by simpa using h)]
theorem jz{x d:Int}(a:1≤d):(0≤x→0≤x/d∧x/d≤x)∧(x<0→x≤x/d∧x/d<0):=by
 refine⟨fun h=>⟨e7 h (by omega),Int.ediv_le_self _ h⟩,fun h=>⟨?_,Int.ediv_neg_of_neg_of_pos h (by omega)⟩⟩;refine Int.le_ediv_of_mul_le (by omega) ?_;have:=Int.mul_le_mul_of_nonpos_left (show x≤0 by omega) a;omega
theorem apv{x d:Int}(e:1≤d):(x.tmod d<0→x/d=x.tdiv d -1∧x % d=x.tmod d+d)∧(0≤x.tmod d→x/d=x.tdiv d∧x % d=x.tmod d):=by
 have b:=Int.mul_tdiv_add_tmod x d;have a:x.tmod d<d:=Int.tmod_lt_of_pos x (by omega);have c: -d<x.tmod d:=by
  have:=Int.tmod_lt_of_pos (-x) (show 0<d by omega);rw[Int.neg_tmod]at this;omega
 refine⟨fun h=> ?_,fun h=> ?_⟩
 ·refine(afu (by omega)).2 ⟨?_,by omega,by omega⟩;rw[Int.mul_sub];omega
 ·exact(afu (by omega)).2 ⟨by omega,h,a⟩
theorem zh{a b:Int}(e:b≠0)(c: -9223372036854775808≤a.tdiv b)(d:a.tdiv b≤9223372036854775807):qt .i64 a b=some (a.tdiv b):=by
 unfold qt;rw[if_neg e,aN c d]
theorem kT{a b:Int}(c:b≠0:=by omega):rm a b=some (a.tmod b):=by unfold rm;rw[if_neg c]
theorem adM{x d:Int}(a:1≤d):(0≤x→0≤x.tdiv d∧x.tdiv d≤x)∧(x≤0→x≤x.tdiv d∧x.tdiv d≤0):=by
 refine⟨fun h=> ?_,fun h=> ?_⟩
 ·rw[aK h];exact(jz a).1 h
 ·have:=(jz (x:= -x) a).1 (by omega);rw[←aK (show 0≤-x by omega),Int.neg_tdiv]at this;omega
theorem bj{α:Type}{l:List α}{i:Nat}(h:i<l.length):idx l (i:Int)=some l[i]:=by
 unfold idx;rw[lf];simp[h]
theorem dO{i n:Nat}(h:i<n:=by omega):ck (i:Int) n=some i:=by
 unfold ck;rw[if_pos ⟨by omega,by omega⟩];simp
theorem aAo(q:Int):r9 .and .i64 q 1=q % 2:=by
 unfold r9;have h:(BitVec.ofInt (b9 .i64) q &&& BitVec.ofInt (b9 .i64) 1).toNat=(q % 2).toNat:=by
  show(BitVec.ofInt 64 q &&& BitVec.ofInt 64 1).toNat=_;rw[BitVec.toNat_and];show(BitVec.ofInt 64 q).toNat &&& 1=_;rw[Nat.and_one_is_mod,BitVec.toNat_ofInt];omega
 show ae .i64 (((BitVec.ofInt (b9 .i64) q &&& BitVec.ofInt (b9 .i64) 1).toNat:Nat):Int)=_;rw[h];rw[aN];omega
def uE(x d:Int):Int:=if x % d>d -x % d∨(x % d=d -x % d∧(x/d) % 2=1)then x/d+1 else x/d
theorem adN{x d:Int}(n: -9223372036854775808≤x)(o:x≤9223372036854775807)(e:1≤d)(l:d≤9223372036854775807):
  (((qt bz x d)).bind fun j=>
   ((rm x d)).bind fun g=>
   (av (decide (g<(0:Int)))
    (some ((ae bz (j -(1:Int))),((ae bz (g+d)),())))
    (some (j,(g,())))).bind fun k=>
   some (k.1,(k.2.1,(0:Int))))=some (x/d,x % d,0):=by
 have t:=adM (x:=x) e;have r:=jz (x:=x) e;have i:=apv (x:=x) e;have p:=e9 x (show d≠0 by omega);have q:=dz x (show 0<d by omega);have a: -9223372036854775808≤x.tdiv d∧x.tdiv d≤9223372036854775807:=by omega
 rw[zh (by omega) a.1 a.2,kT];simp only[aa,ag,bx]
 split
 ·rename_i h;obtain⟨b,c⟩:=i.1 h;rw[←b,←c,aN,aN];rfl
 ·rename_i h;obtain⟨b,c⟩:=i.2 (by omega);rw[←b,←c];rfl
theorem C2{n:Nat}{x d:Int}(b: -9223372036854775808≤x)(c:x≤9223372036854775807)(e:1≤d)(a:d≤9223372036854775807):lp n (x,d)=some (x/d,x % d,0):=by
 rw[Vs,ag,if_neg (by simp;omega)];exact adN b c e a
theorem C3{n:Nat}{x d:Int}(b: -9223372036854775808≤x)(c:x≤9223372036854775807)(e:1≤d)(a:d≤9223372036854775807):ln n (x,d)=some (x/d,x % d,0):=by
 rw[Vj,ag,if_neg (by simp;omega)];exact adN b c e a
theorem ajh{x d:Int}(i: -9223372036854775808≤x)(j:x≤9223372036854775807)(b:1≤d)(h:x % d≥d -x % d): -9223372036854775808≤x/d+1∧x/d+1≤9223372036854775807:=by
 have g:=jz (x:=x) b;have k:=dz x (show 0<d by omega)
 by_cases c:d=1
 ·subst c;omega
 ·have:=(jz (x:=x) b);have n:=dN x d
  by_cases a:0≤x
  ·have e:=(g.1 a).1;have l:2*(x/d)≤d*(x/d):=bP (by omega) e;omega
  ·omega
theorem am4{n:Nat}{x d:Int}(a: -9223372036854775808≤x)(b:x≤9223372036854775807)(g:1≤d)(c:d≤9223372036854775807):yE n (x,d)=some (uE x d,0):=by
 have i:=e9 x (show d≠0 by omega);have j:=dz x (show 0<d by omega);have k:=ajh a b g;rw[ZE,C2 a b g c];simp only[aa,ag,aAo,bx,beq_iff_eq,bne_self_eq_false,cn,if_false];rw[aN (x:=d -x % d)];unfold uE
 split
 ·rename_i h;rw[aN,if_pos (.inl h)]
 ·split
  ·rename_i h
   split
   ·rename_i e;rw[aN,if_pos (.inr ⟨h,e⟩)];rfl
   ·rename_i e;rw[gk];rfl
  ·rw[gk]
theorem ayn(q:Int):¬ q.tmod 2=0↔q % 2=1:=by
 by_cases h:0≤q
 ·rw[Int.tmod_eq_emod_of_nonneg h];omega
 ·have c:=Int.tmod_eq_emod_of_nonneg (a:= -q) (b:=2) (by omega);rw[Int.neg_tmod]at c;have d:q.tmod 2= -((-q) % 2):=by rw[←c];exact(Int.neg_neg _).symm
  rw[d];omega
theorem am5{n:Nat}{x d:Int}(b: -9223372036854775808≤x)(c:x≤9223372036854775807)(i:1≤d)(g:d≤9223372036854775807):yC n (x,d)=some (uE x d,0):=by
 have j:=e9 x (show d≠0 by omega);have k:=dz x (show 0<d by omega);have o:=ajh b c i;rw[Zz,C3 b c i g];simp only[aa,ag,bx,beq_iff_eq,bne_self_eq_false,cn,if_false];rw[aN (x:=d -x % d),kT];have a:=ayn (x/d);simp only[aa,bne_iff_ne,ne_eq];unfold uE
 split
 ·rename_i h;rw[aN,if_pos (.inl h)]
 ·split
  ·rename_i h
   split
   ·rename_i e;rw[aN,if_pos (.inr ⟨h,a.1 e⟩)];rfl
   ·rename_i e;have l:¬ (x/d) % 2=1:=fun h=>e (a.2 h);rw[gk];rfl
  ·rw[gk]
def cq(x s:Int):Int×Int:=if s<0∨s>62 then(0,20)else(uE x (2^s.toNat),0)
theorem rn{s:Nat}(h:s≤62):(1:Int)≤2^s∧(2:Int)^s≤4611686018427387904:=by
 have b:(0:Nat)<2^s:=Nat.two_pow_pos s;refine⟨?_,?_⟩
 ·have a:((1:Nat):Int)≤((2^s:Nat):Int):=by exact_mod_cast b
  simpa using a
 have:(2:Nat)^s≤2^62:=Nat.pow_le_pow_right (by omega) h;have a:((2^s:Nat):Int)≤((2^62:Nat):Int):=by exact_mod_cast this
 simpa using a
theorem mT{n:Nat}{x s:Int}(a: -9223372036854775808≤x)(b:x≤9223372036854775807):gC n (x,s)=some (cq x s):=by
 rw[Vt];simp only[ag,bx];unfold cq
 split
 ·rw[lf]
 ·split
  ·rw[lf]
  ·rw[gk];have c:=rn (s:=s.toNat) (by omega);have d:qc .i64 1 s=some (2^s.toNat):=by
    unfold qc;rw[gk];have:min s.toNat (b9 .i64)=s.toNat:=by show min s.toNat 64=_;omega
    rw[this,Int.one_mul,aN]
   rw[d];simp only[aa];rw[am4 a b c.1 (by omega)];rfl
theorem Fw{n:Nat}{x s:Int}(d:s≤62):∀(k i:Nat),(i:Int)≤s→s -i<k→qH n k (x,s,2^i,(i:Int),())=some (x,2^s.toNat,())
 |0,i,a,b=>by omega
 |k+1,i,a,b=>by
  rw[Pm];simp only[ag,bx];have g:=rn (s:=i) (by omega)
  split
  ·have c:=rn (s:=i+1) (by omega);have e:(2:Int)^i*2=2^(i+1):=by rw[c9]
   rw[aN (x:=(i:Int)+1),e,aN];exact Fw d k (i+1) (by omega) (by omega)
  ·have:i=s.toNat:=by omega
   rw[this]
theorem pk{n:Nat}(g:100≤n){x s:Int}(b: -9223372036854775808≤x)(c:x≤9223372036854775807):gB n (x,s)=some (cq x s):=by
 rw[Vk];simp only[ag,bx];unfold cq
 split
 ·rw[lf]
 ·split
  ·rw[lf]
  ·rw[gk];have d:=rn (s:=s.toNat) (by omega);have a:=Fw (n:=n) (x:=x) (s:=s) (by omega) n 0 (by omega) (by omega);have e:(2:Int)^0=1:=rfl;rw[e]at a;rw[show((0:Nat):Int)=0 from rfl]at a;rw[a];simp only[aa];rw[am5 b c d.1 (by omega)];rfl
def fk(x:Int):Int:=if x< -127 then -127 else if x>127 then 127 else x
theorem pn(x:Int): -127≤fk x∧fk x≤127:=by
 unfold fk
 split
 ·omega
 ·split<;>omega
theorem tX{n:Nat}{x:Int}:j0 n x=some (fk x):=by
 have h:=pn x;rw[So,Vy];simp only[ag,bx];unfold fk at h ⊢
 split
 ·rfl
 ·split
  ·rfl
  ·rename_i a b;show some (ae .i8 x)=_;rw[w8 (by omega) (by omega)]
theorem tY{n:Nat}{x:Int}:iR n x=some (fk x):=by
 have h:=pn x;rw[Sf,Vl];simp only[ag,bx];unfold fk at h ⊢
 split
 ·rfl
 ·split
  ·rfl
  ·rename_i a b;show some (ae .i8 x)=_;rw[w8 (by omega) (by omega)]
def aji(a b:Int):Int×Bool:=if -9223372036854775808≤a+b∧a+b≤9223372036854775807 then(a+b,true)else(0,false)
theorem awi{x:Int}(a:9223372036854775807<x)(b:x≤18446744073709551614):ae .i64 x=x -18446744073709551616:=by
 simp only[ae,b9,fH,Bool.true_and,bx,ge_iff_le]
 split<;>omega
theorem awj{x:Int}(a:x< -9223372036854775808)(b: -18446744073709551616≤x):ae .i64 x=x+18446744073709551616:=by
 simp only[ae,b9,fH,Bool.true_and,bx,ge_iff_le]
 split<;>omega
theorem apw{n:Nat}{a b:Int}(g: -9223372036854775808≤a)(h:a≤9223372036854775807)(i: -9223372036854775808≤b)(j:b≤9223372036854775807):B3 n (a,b)=some (aji a b):=by
 rw[acX];unfold aji
 by_cases k:9223372036854775807<a+b
 ·rw[awi k (by omega),gk];have d:decide (a<0)=false:=by simp;omega
  have c:decide (b<0)=false:=by simp;omega
  have e:decide (a+b -18446744073709551616<0)=true:=by simp;omega
  rw[d,c,e];rfl
 ·by_cases l:a+b< -9223372036854775808
  ·rw[awj l (by omega),gk];have d:decide (a<0)=true:=by simp;omega
   have c:decide (b<0)=true:=by simp;omega
   have e:decide (a+b+18446744073709551616<0)=false:=by simp;omega
   rw[d,c,e];rfl
  ·rw[aN,lf];simp only[ag,beq_iff_eq,decide_eq_decide,aZ]
   split
   ·split
    ·rename_i d c;simp only[beq_eq_false_iff_ne,ne_eq,decide_eq_decide]at c;omega
    ·rfl
   ·rfl
theorem apx{n:Nat}{a b:Int}(c: -9223372036854775808≤a)(d:a≤9223372036854775807)(e: -9223372036854775808≤b)(g:b≤9223372036854775807):Cf n (a,b)=some (aji a b):=by
 rw[adf];unfold aji;simp only[ag,bx]
 split
 ·rw[aN (x:=9223372036854775807 -b),if_neg (show ¬ b<0 by omega)]
  split
  ·rw[gk]
  ·rw[lf,aN]
 ·split
  ·rw[aN (x:= -9223372036854775808 -b)]
   split
   ·rw[gk]
   ·rw[lf,aN]
  ·rw[lf,aN]
def MJ(t:Int):Int:=241400000+84941200*t/65536
def MK(t:Int):Int:=747400624+MJ t*t/65536
def adO(t:Int):Int:=1073741824+MK t*t/65536
def aro(x:Int):Int:=if xr x 0/65536≤-31 then 0 else adO (xr x 0 % 65536)/2^(-(xr x 0/65536)).toNat
theorem arp:∃f:Int→Int,∀x,f x=aro x:=⟨_,fun _=>rfl⟩
noncomputable def Wk:Int→Int:=Classical.choose arp
theorem aa6(x:Int):Wk x=aro x:=Classical.choose_spec arp x
theorem arq{a t m:Int}(d:0≤a)(b:a≤m)(c:0≤t)(e:t<65536):0≤a*t∧a*t≤m*65535:=by
 have g:=cp d c;have h:a*t≤m*t:=bP b c;have i:m*t≤m*65535:=ci (by omega) (by omega);omega
theorem ajj{t:Int}(e:0≤t)(b:t<65536):(0≤84941200*t∧84941200*t≤84941200*65535)∧(0≤MJ t∧MJ t≤326341200)∧(0≤MJ t*t∧MJ t*t≤326341200*65535)∧(0≤MK t∧MK t≤1073741824)∧(0≤MK t*t∧MK t*t≤1073741824*65535)∧(1073741824≤adO t∧adO t≤2147483648):=by
 have g:=arq (a:=84941200) (m:=84941200) (by omega) (by omega) e b;have c:0≤MJ t∧MJ t≤326341200:=by unfold MJ;omega
 have h:=arq c.1 c.2 e b;have d:0≤MK t∧MK t≤1073741824:=by unfold MK;omega
 have i:=arq d.1 d.2 e b;have j:1073741824≤adO t∧adO t≤2147483648:=by unfold adO;omega
 exact⟨g,c,h,d,i,j⟩
theorem ag3{a:Int}(h:0≤a)(b:a≤9223372036854775807):qt .i64 a 65536=some (a/65536):=by
 rw[zh (by omega) (by rw[aK h];omega) (by rw[aK h];omega),aK h]
theorem arr(x:Int):xr x 0≤0∧(x≤0→xr x 0=x)∧(0<x→xr x 0=0):=by
 unfold xr
 split<;>omega
theorem adP{n:Nat}(E:100≤n){x:Int}(u: -9223372036854775808≤x)(w:x≤9223372036854775807):sE n x=some (Wk x):=by
 have D:=arr x;have a: -9223372036854775808≤xr x 0:=by by_cases h:x≤0<;>omega
 rw[ZO,C2 a (by omega) (by omega) (by omega)];simp only[aa,ag,bx];rw[aa6];unfold aro
 split
 ·rfl
 ·rename_i r;obtain⟨t,p⟩:∃t,t=xr x 0 % 65536:=⟨_,rfl⟩;obtain⟨q,b⟩:∃q,q=xr x 0/65536:=⟨_,rfl⟩;rw[←p,←b];rw[←b]at r;have o:q≤0:=by omega
  obtain⟨g,y,i,z,j,B⟩:=ajj (t:=t) (by omega) (by omega);obtain⟨k,rfl⟩:∃k,n=k+4:=⟨n -4,by omega⟩;have c0:ck (0:Int) 4=some 0:=rfl;have d1:ae .i64 ((0:Int)+1)=1:=aN (by decide) (by decide);have c:ck (ae .i64 ((0:Int)+1)) 4=some 1:=by rw[d1];rfl
  have d2:ae .i64 ((1:Int)+1)=2:=aN (by decide) (by decide);have d:ck (ae .i64 ((1:Int)+1)) 4=some 2:=by rw[d2];rfl
  have d3:ae .i64 ((2:Int)+1)=3:=aN (by decide) (by decide);have e:ck (ae .i64 ((2:Int)+1)) 4=some 3:=by rw[d3];rfl
  have l:sF (k+4) (k+4) (q,t,(),84941200,0,(84941200,241400000,747400624,1073741824,()),())=some (q,adO t,()):=by
   rw[oC,c,d1];simp only[ag,aa];rw[if_pos (by decide)];simp only[List.getElem?_cons_succ,eK,aa];rw[aN,ag3 g.1 (by omega)];simp only[aa];rw[aN (x:=241400000+84941200*t/65536),show(241400000:Int)+84941200*t/65536=MJ t from rfl];rw[oC,d,d2];simp only[ag,aa];rw[if_pos (by decide)];simp only[List.getElem?_cons_succ,eK,aa];rw[aN (x:=MJ t*t),ag3 i.1 (by omega)];simp only[aa];rw[aN (x:=747400624+MJ t*t/65536),show(747400624:Int)+MJ t*t/65536=MK t from rfl];rw[oC,e,d3];simp only[ag,aa];rw[if_pos (by decide)];simp only[List.getElem?_cons_succ,eK,aa];rw[aN (x:=MK t*t),ag3 j.1 (by omega)];simp only[aa];rw[aN (x:=1073741824+MK t*t/65536),show(1073741824:Int)+MK t*t/65536=adO t from rfl];rw[oC];simp only[ag];rw[if_neg (by decide)]
  rw[c0];simp only[aa,eK];rw[l];simp only[aa];rw[aN];unfold ui;rw[gk,show min (0 -q).toNat (b9 .i64)=(-q).toNat by show min _ 64=_;omega];simp only[aa];have F:=rn (s:=(-q).toNat) (by omega);rw[Int.fdiv_eq_ediv_of_nonneg _ (by omega)]
theorem IJ{n:Nat}{q:Int}:∀(k i:Nat) (c:Int),0≤c→c≤9223372036854775807→(i:Int)≤q→q≤100→q -i<k→qG n k (q,c,(i:Int),())=some (c/2^(q -i).toNat,())
 |0,i,c,_,_,b,_,d=>by omega
 |k+1,i,c,a,g,b,h,d=>by
  rw[Pl];simp only[ag,bx]
  split
  ·have e:qt .i64 c 2=some (c/2):=by
    rw[zh (by omega) (by rw[aK a];omega) (by rw[aK a];omega),aK a]
   rw[e];simp only[aa];rw[aN];have:=IJ (n:=n) (q:=q) k (i+1) (c/2) (by omega) (by omega) (by omega) h (by omega);rw[show((i+1:Nat):Int)=(i:Int)+1 from rfl]at this;rw[this,Int.ediv_ediv_of_nonneg (by omega)];rw[show(q -(i:Int)).toNat=(q -((i:Int)+1)).toNat+1 by omega,c9,aa5]
  ·rw[show(q -(i:Int)).toNat=0 by omega];simp
theorem adQ{n:Nat}(w:200≤n){x:Int}(l: -9223372036854775808≤x)(o:x≤9223372036854775807):su n x=some (Wk x):=by
 have b:=arr x;have a: -9223372036854775808≤xr x 0:=by by_cases h:x≤0<;>omega
 rw[Zy];have c:av (decide (x>0)) (some ((0:Int),())) (some (x,()))=some (xr x 0,()):=by
  rw[ag];simp only[bx]
  split
  ·rw[b.2.2 (by omega)]
  ·rw[b.2.1 (by omega)]
 rw[c];simp only[aa];rw[C3 a (by omega) (by omega) (by omega)];simp only[aa];rw[aa6];unfold aro;obtain⟨t,k⟩:∃t,t=xr x 0 % 65536:=⟨_,rfl⟩;obtain⟨q,i⟩:∃q,q=xr x 0/65536:=⟨_,rfl⟩;rw[←k,←i];have j:q≤0:=by omega
 obtain⟨d,p,e,r,g,u⟩:=ajj (t:=t) (by omega) (by omega);rw[aN (x:=84941200*t),ag3 d.1 (by omega)];simp only[aa];rw[aN (x:=241400000+84941200*t/65536),show(241400000:Int)+84941200*t/65536=MJ t from rfl];rw[aN (x:=MJ t*t),ag3 e.1 (by omega)];simp only[aa];rw[aN (x:=747400624+MJ t*t/65536),show(747400624:Int)+MJ t*t/65536=MK t from rfl];rw[aN (x:=MK t*t),ag3 g.1 (by omega)];simp only[aa];rw[aN (x:=1073741824+MK t*t/65536),show(1073741824:Int)+MK t*t/65536=adO t from rfl];rw[aN (x:=0 -q)];simp only[ag,bx]
 split
 ·rw[lf]
 ·rw[gk];have:=IJ (n:=n) (q:=0 -q) n 0 (adO t) (by omega) (by omega) (by omega) (by omega) (by omega);rw[show((0:Nat):Int)=0 from rfl]at this;rw[this];simp only[aa];rw[show(0 -q -0).toNat=(-q).toNat by omega]
theorem ak4(x:Int):0≤Wk x∧Wk x≤1073741824:=by
 have k:=arr x;rw[aa6];unfold aro
 split
 ·omega
 ·obtain⟨d,h,e,i,g,j⟩:=ajj (t:=xr x 0 % 65536) (by omega) (by omega)
  by_cases c:xr x 0/65536=0
  ·have:xr x 0=0:=by omega
   rw[this];decide
  ·obtain⟨s,b⟩:∃s,(-(xr x 0/65536)).toNat=s+1:=⟨(-(xr x 0/65536)).toNat -1,by omega⟩;rw[b,c9,aa5,←Int.ediv_ediv_of_nonneg (by omega)];have a:=rn (s:=s) (by omega);have:=(jz (x:=adO (xr x 0 % 65536)/2) a.1).1 (by omega);omega
theorem ag4:Wk 0=1073741824:=by rw[aa6];decide
theorem ba{β R:Type}{L:Nat→Int→β→Option R}{len:Nat}{r:R}(a:Nat→β)(h:∀k i:Nat,i<len→L (k+1) (i:Int) (a i)=L k ((i:Int)+1) (a (i+1)))(e:∀k,L (k+1) (len:Int) (a len)=some r):
  ∀k,len<k→L k 0 (a 0)=some r:=by
 have b:∀(m k i:Nat),i+m=len→m<k→L k (i:Int) (a i)=some r:=by
  intro m
  induction m with
  |zero=>
   intro k i c d;obtain⟨k,rfl⟩:=gU k;have:i=len:=by omega
   rw[this];exact e k
  |succ m j=>
   intro k i c d;obtain⟨k,rfl⟩:=gU k;rw[h k i (by omega)];exact j k (i+1) (by omega) (by omega)
 exact fun k g=>b len k 0 (by omega) g
def dL{α:Type}(g:Nat→α)(n:Nat):List α:=(List.range n).map g
theorem eF{α:Type}(g:Nat→α):dL g 0=[]:=rfl
theorem mH{α:Type}(g:Nat→α)(n:Nat):dL g (n+1)=dL g n++[g n]:=by simp[dL,List.range_succ]
@[simp] theorem Bh{α:Type}(g:Nat→α)(n:Nat):(dL g n).length=n:=by simp[dL]
theorem aoy{α:Type}(g:Nat→α){n i:Nat}(h:i<n):(dL g n)[i]? =some (g i):=by simp[dL,h]
theorem iO{α:Type}{g:Nat→α}{n:Nat}{x:α}(h:x∈dL g n):∃i,i<n∧x=g i:=by
 simp only[dL,List.mem_map,List.mem_range]at h;obtain⟨i,a,b⟩:=h;exact⟨i,a,b.symm⟩
theorem po{α:Type}(g:Nat→α){n i:Nat}(h:i<n)(d:α):(dL g n).getD i d=g i:=by
 rw[aB,aoy g h];rfl
def fill{α:Type}(g:Nat→α)(z:α)(n i:Nat):List α:=dL g i++ao (n -i) z
theorem ve{α:Type}(g:Nat→α)(z:α)(n:Nat):fill g z n 0=ao n z:=by simp[fill,dL]
theorem Fx{α:Type}(g:Nat→α)(z:α)(n:Nat):fill g z n n=dL g n:=by simp[fill]
theorem ak5{α:Type}(g:Nat→α)(z:α){n i:Nat}(h:i≤n):(fill g z n i).length=n:=by simp[fill];omega
theorem Bi{α:Type}(g:Nat→α)(z:α){n i:Nat}(h:i<n):(fill g z n i).set i (g i)=fill g z n (i+1):=by
 unfold fill;rw[List.set_append_right _ _ (by simp),Bh,Nat.sub_self,mH];obtain⟨m,a⟩:∃m,n -i=m+1:=⟨n -i -1,by omega⟩;rw[a,show n -(i+1)=m by omega,cH];simp
theorem Hc{α:Type}(g:Nat→α)(z:α){n i:Nat}(h:i<n):ck (i:Int) (fill g z n i).length=some i:=by
 rw[ak5 g z (by omega)];exact dO h
theorem Bj{α:Type}(g:Nat→α)(z:α){n i:Nat}(h:i<n):(fill g z n i)[i]? =some z:=by
 unfold fill;rw[bc (by simp),Bh,Nat.sub_self,List.getElem?_replicate,lf]
theorem fv{α:Type}{b:Nat}(g:Nat→α){i:Nat}(h:(i+1)*b≤room)(a:i+1≤room):app b (dL g i) [g i]=some (dL g (i+1)):=by
 unfold app;rw[if_pos ⟨by simpa using h,by simpa using a⟩,mH]
theorem aV{α:Type}{l:List α}{i:Nat}(h:i<l.length)(d:α):l.getD i d=l[i]:=by simp[h]
theorem bn{α:Type}{l:List α}{i:Nat}(h:i<l.length)(d:α):idx l (i:Int)=some (l.getD i d):=by rw[bj h,aV h]
theorem S7{α β:Type}(f:α→β)(l:List α)(d:α):dL (fun i=>f (l.getD i d)) l.length=l.map f:=by
 apply List.ext_getElem
 ·simp
 ·intro i c a;have b:i<l.length:=by simpa using a
  simp[dL,b]
def bh(l:List Int):Prop:=∀x∈l,-128≤x∧x≤127
def ir(l:List Int):Prop:=∀x∈l,-9223372036854775808≤x∧x≤9223372036854775807
theorem bh.at{l:List Int}(h:bh l)(i:Nat): -128≤l.getD i 0∧l.getD i 0≤127:=by
 by_cases hi:i<l.length
 ·rw[aV hi];exact h _ (am hi)
 ·rw[aB,bd (by omega)];decide
theorem ir.at{l:List Int}(h:ir l)(i:Nat): -9223372036854775808≤l.getD i 0∧l.getD i 0≤9223372036854775807:=by
 by_cases hi:i<l.length
 ·rw[aV hi];exact h _ (am hi)
 ·rw[aB,bd (by omega)];decide
theorem bh.sub{l:List Int}(h:bh l)(a b:Nat):bh ((l.drop a).take b):=fun x i=>h x (List.mem_of_mem_drop (cS i))
def gn(g:Nat→Int):Nat→Int
 |0=>0
 |i+1=>gn g i+g i
theorem adR{g:Nat→Int}{m:Int}(hm:0≤m)(h:∀i,-m≤g i∧g i≤m):∀i:Nat,-(i*m)≤gn g i∧gn g i≤i*m
 |0=>by simp[gn]
 |i+1=>by
  have a:=adR hm h i;have b:=h i;simp only[gn];rw[show((i+1:Nat):Int)*m=i*m+m by rw[Int.natCast_add,Int.add_mul];simp];omega
theorem Wl{a b:Int}(i: -128≤a∧a≤127)(j: -128≤b∧b≤127): -16384≤a*b∧a*b≤16384:=by
 have h:∀a b:Int,0≤a→a≤128→0≤b→b≤128→0≤a*b∧a*b≤16384:=fun a b d c e g=>by
  have:=dA c g e (by omega);have:=cp d e;omega
 by_cases d:0≤a
 ·by_cases c:0≤b
  ·have:=h a b d (by omega) c (by omega);omega
  ·have:=h a (-b) d (by omega) (by omega) (by omega);rw[Int.mul_neg]at this;omega
 ·by_cases c:0≤b
  ·have:=h (-a) b (by omega) (by omega) c (by omega);rw[Int.neg_mul]at this;omega
  ·have:=h (-a) (-b) (by omega) (by omega) (by omega) (by omega);rw[Int.neg_mul_neg]at this;omega
def xM(a b:List Int):Int:=gn (fun i=>a.getD i 0*b.getD i 0) a.length
theorem ajk{a b:List Int}(c:bh a)(d:bh b)(i:Nat): -(i*16384)≤gn (fun i=>a.getD i 0*b.getD i 0) i∧gn (fun i=>a.getD i 0*b.getD i 0) i≤i*16384:=
 adR (by omega) (fun i=>Wl (c.at i) (d.at i)) i
theorem ak6{a b:List Int}(c:bh a)(d:bh b): -((a.length:Nat)*16384:Int)≤xM a b∧xM a b≤(a.length:Nat)*16384:=ajk c d _
theorem aoz{n:Nat}{a b:List Int}(d:bh a)(e:bh b)(q:a.length≤b.length)(g:a.length≤1000000000)(t:Hn0 n):zs n (a,b)=some (xM a b):=by
 rw[aip];have c:=ba (L:=fun k i s=>rO n k (b,s,a,(a.length:Int),i,())) (len:=a.length) (r:=(xM a b,())) (fun i=>gn (fun i=>a.getD i 0*b.getD i 0) i) ?_ ?_ n (by omega)
 ·rw[show(gn (fun i=>a.getD i 0*b.getD i 0) 0)=0 from rfl]at c;rw[c];rfl
 ·intro k i l;show rO n (k+1) _=_;rw[K8];simp only[ag,bx];rw[lf,bn l 0,bn (show i<b.length by omega) 0];have h:=d.at i;have j:=e.at i;have o:=Wl h j;have p:=ajk d e i;simp only[aa];rw[aN (x:=a.getD i 0),aN (x:=b.getD i 0),aN (x:=a.getD i 0*b.getD i 0),aN (x:=(i:Int)+1),aN];rfl
 ·intro k;show rO n (k+1) _=_;rw[K8,ag,if_neg (by simp)];rfl
theorem ag5{n:Nat}{a b:List Int}(d:bh a)(e:bh b)(q:a.length=b.length)(g:a.length≤1048576)(t:Hn0 n):wP n (a,b)=some (xM a b,0):=by
 rw[ade];simp only[ag,bx,bne_iff_ne,ne_eq];rw[gk,gk,gk];have c:=ba (L:=fun k i s=>od n k (a,b,s,(a.length:Int),i,())) (len:=a.length) (r:=(xM a b,())) (fun i=>gn (fun i=>a.getD i 0*b.getD i 0) i) ?_ ?_ n (by omega)
 ·rw[show(gn (fun i=>a.getD i 0*b.getD i 0) 0)=0 from rfl]at c;rw[c];rfl
 ·intro k i l;show od n (k+1) _=_;rw[Fo];simp only[ag,bx];rw[lf,bn l 0,bn (show i<b.length by omega) 0];have h:=d.at i;have j:=e.at i;have o:=Wl h j;have p:=ajk d e i;simp only[aa];rw[aN (x:=a.getD i 0),aN (x:=b.getD i 0),aN (x:=a.getD i 0*b.getD i 0),aN (x:=(i:Int)+1),aN];rfl
 ·intro k;show od n (k+1) _=_;rw[Fo,ag,if_neg (by simp)];rfl
def I6(w:List Int)(fx:Int):Int:=if w.length>1048576 then 81 else if fx<1∨(w.length:Int) % fx≠0 then 80 else 0
theorem ak7{w:List Int}{fx:Int}:(av (decide ((((af w):Nat):Int)>(1048576:Int)))
   (some (81:Int))
   (av (decide (fx<(1:Int)))
    (some (80:Int))
    (((rm (((af w):Nat):Int) fx)).bind fun g=>
    av (g !=(0:Int))
     (some (80:Int))
     (some (0:Int)))))=some (I6 w fx):=by
 simp only[ag,bx];unfold I6
 by_cases e:(w.length:Int)>1048576
 ·have a:w.length>1048576:=by omega
  rw[if_pos e,if_pos a]
 ·have a:¬ w.length>1048576:=by omega
  rw[if_neg e,if_neg a]
  by_cases b:fx<1
  ·rw[if_pos b,if_pos (.inl b)]
  ·rw[if_neg b,kT,Int.tmod_eq_emod_of_nonneg (by omega)];simp only[aa,bne_iff_ne,ne_eq]
   by_cases c:(w.length:Int) % fx=0
   ·rw[if_neg (by simpa using c),if_neg];rintro(d |d)
    ·exact b d
    ·exact d c
   ·rw[if_pos c,if_pos (.inr c)]
theorem PM{n:Nat}{w:List Int}{fx:Int}:kX n (w,fx)=some (I6 w fx):=by rw[ZD];exact ak7
theorem He{n:Nat}{w:List Int}{fx:Int}:mi n (w,fx)=some (I6 w fx):=by rw[SA];exact ak7
theorem Wm{w:List Int}{fx:Int}(h:I6 w fx=0):w.length≤1048576∧1≤fx∧(w.length:Int) % fx=0:=by
 unfold I6 at h
 split at h
 ·cases h
 ·split at h
  ·cases h
  ·rename_i c b;refine⟨by omega,?_,?_⟩
   ·by_cases a:fx<1
    ·exact absurd (.inl a) b
    ·omega
   ·by_cases a:(w.length:Int) % fx=0
    ·exact a
    ·exact absurd (.inr a) b
def eG(w:List Int)(c j:Nat):List Int:=(w.drop (j*c)).take c
def Wn(w:List Int)(c:Nat)(x:List Int):List Int:=dL (fun j=>xM (eG w c j) x) (w.length/c)
def kx(w:List Int)(fx:Int)(x:List Int):List Int×Int:=
 if I6 w fx≠0 then([],I6 w fx)else if(x.length:Int)≠fx then([],80)else(Wn w fx.toNat x,0)
theorem Mf{l c j:Nat}(h:l % c=0)(d:j<l/c):j*c+c≤l:=by
 have a:=Nat.div_add_mod l c;have b:(j+1)*c≤(l/c)*c:=cv c d;rw[Nat.succ_mul]at b;rw[Nat.mul_comm]at a;omega
theorem tZ{w:List Int}{c j:Nat}(h:w.length % c=0)(a:j<w.length/c):(eG w c j).length=c:=by
 have:=Mf h a;simp[eG];omega
theorem ak8{α β:Type}(f:α→Option β)(g:Nat→α)(r:Nat→β):∀n:Nat,(∀j,j<n→f (g j)=some (r j))→uH f (dL g n)=some (dL r n)
 |0,_=>rfl
 |n+1,h=>by
  rw[mH,mH];exact Uy f _ _ _ _ (ak8 f g r n fun j a=>h j (by omega)) (h n (by omega))
theorem aoA{l c:Nat}(a:1≤c)(h:l % c=0):pcs l c=l/c:=by
 unfold pcs;obtain⟨m,rfl⟩:=Nat.dvd_of_mod_eq_zero h;rw[Nat.mul_div_cancel_left _ (by omega),Nat.add_sub_assoc a,Nat.mul_add_div (by omega),Nat.div_eq_of_lt (by omega)];omega
theorem Fy{n:Nat}{w x:List Int}{fx:Int}(h:bh w)(hx:bh x)(i:x.length≤1000000000)(g:Hn0 n):oO n (w,fx,x)=some (kx w fx x):=by
 show OZ (kX n) (zs n) (w,fx,x)=_;unfold OZ kx;simp only;rw[PM];simp only[aa,ag,aZ,beq_eq_false_iff_ne,ne_eq]
 split
 ·rfl
 ·rename_i b;have b:I6 w fx=0:=by omega
  obtain⟨k,l,o⟩:=Wm b
  split
  ·rfl
  ·rename_i c;have c:(x.length:Int)=fx:=by omega
   subst c;rw[if_pos (by simp;omega),ax];have a:w.length % x.length=0:=by omega
   have d:1≤x.length:=by omega
   have:chunks x.length w=dL (fun j=>eG w x.length j) (w.length/x.length):=by
    unfold chunks;rw[aoA d a];rfl
   rw[this,ak8 _ _ (fun j=>xM (eG w x.length j) x) _ (fun j e=>by
    have:=tZ a e;exact aoz (h.sub _ _) hx (by omega) (by omega) g)]
   rfl
theorem aa7{w:List Int}{c j:Nat}(h:w.length % c=0)(a:j<w.length/c):slc w ((j*c:Nat):Int) ((j*c:Nat)+(c:Nat):Int)=some (eG w c j):=by
 have:=Mf h a;unfold slc;rw[if_pos ⟨by omega,by omega,by omega⟩];congr 1;unfold eG;rw[show(((j*c:Nat):Int)+(c:Nat)).toNat=j*c+c by omega,ax,List.drop_take];congr 1;omega
theorem xg{n:Nat}{w x:List Int}{fx:Int}(r:bh w)(hx:bh x)(q:Hn0 n):jL n (w,fx,x)=some (kx w fx x):=by
 rw[V3,He];unfold kx;simp only[aa,ag,bne_iff_ne,ne_eq]
 split
 ·rfl
 ·rename_i e;have e:I6 w fx=0:=by omega
  obtain⟨u,y,z⟩:=Wm e
  split
  ·rfl
  ·rename_i g;have g:(x.length:Int)=fx:=by omega
   subst g;have b:w.length % x.length=0:=by omega
   have B:1≤x.length:=by omega
   have D:(w.length/x.length)≤w.length:=Nat.div_le_self _ _;have d:∀(m k j:Nat),j+m=w.length/x.length→m<k→q9 n k (w,(x.length:Int),x,dL (fun j=>xM (eG w x.length j) x) j,((j*x.length:Nat):Int),())=some (Wn w x.length x,()):=by
    intro m
    induction m with
    |zero=>
     intro k j l o;obtain⟨k,rfl⟩:∃i,k=i+1:=⟨k -1,by omega⟩;have c:j=w.length/x.length:=by omega
     rw[AU,ag,if_neg]
     ·rw[c];rfl
     ·have p:=Nat.div_add_mod w.length x.length;have h:j*x.length=w.length:=by rw[c,Nat.mul_comm];omega
      rw[h];simp
    |succ m t=>
     intro k j l o;obtain⟨k,rfl⟩:∃i,k=i+1:=⟨k -1,by omega⟩;have c:j<w.length/x.length:=by omega
     have p:=Mf b c;rw[AU];simp only[ag,bx];rw[lf,aN,aa7 b c];simp only[aa];have h:=tZ b c;rw[ag5 (a:=eG w x.length j) (r.sub _ _) hx (by omega) (by omega) q];simp only[aa];rw[fv (fun j=>xM (eG w x.length j) x) (by unfold room;omega) (by unfold room;omega)];simp only[aa];have:=t k (j+1) (by omega) (by omega);rw[Nat.succ_mul]at this;exact this
   have:=d (w.length/x.length) n 0 (by omega) (by omega);rw[Nat.zero_mul]at this;rw[show(([]:List Int))=dL (fun j=>xM (eG w x.length j) x) 0 from rfl,show(0:Int)=((0:Nat):Int)from rfl,this];rfl
def ak9(a:List Int):Int:=if a.length>1048576 then 81 else 0
def Hf(a b:List Int):Int:=if a.length>1048576∨b.length>1048576 then 81 else if a.length≠b.length then 80 else 0
theorem ala{n:Nat}(b:10≤n){a:List Int}:kD n [a]=some (ak9 a):=by
 obtain⟨k,rfl⟩:∃k,n=k+4:=⟨n -4,by omega⟩;rw[Ar,iY];simp only[ag,bZ];rw[if_pos (by simp),show idx [a] (0:Int)=some a from rfl];simp only[aa,bx];unfold ak9
 by_cases h:(a.length:Int)>1048576
 ·rw[if_pos h,lf];rfl
 ·rw[if_neg h,gk,aN (by decide) (by decide),iY,ag,if_neg (by simp)];simp only[aa,cI];rw[iZ];simp only[ag,bZ];rw[if_pos (by simp),show idx [a] (0:Int)=some a from rfl];simp only[aa];rw[if_neg (by simp),aN (by decide) (by decide),iZ,ag,if_neg (by simp)];rfl
theorem alb{n:Nat}(i:10≤n){a b:List Int}:kD n [a,b]=some (Hf a b):=by
 obtain⟨k,rfl⟩:∃k,n=k+4:=⟨n -4,by omega⟩;have c:idx [a,b] (0:Int)=some a:=rfl;have d:idx [a,b] (1:Int)=some b:=rfl;have d1:ae .i64 ((0:Int)+1)=1:=aN (by decide) (by decide);have d2:ae .i64 ((1:Int)+1)=2:=aN (by decide) (by decide);rw[Ar,iY];simp only[ag,bg,dr];rw[if_pos (by simp),c];simp only[aa,bx];unfold Hf
 by_cases h:(a.length:Int)>1048576
 ·rw[if_pos h,lf];rfl
 ·rw[if_neg h,d1,iY];simp only[ag];rw[if_pos (by simp),d];simp only[aa,bx]
  by_cases e:(b.length:Int)>1048576
  ·rw[if_pos e,lf];rfl
  ·rw[if_neg e,gk,d2,iY,ag,if_neg (by simp)];simp only[aa,cI];rw[iZ];simp only[ag,bg,dr];rw[if_pos (by simp),c];simp only[aa];rw[if_neg (by simp),d1,iZ];simp only[ag];rw[if_pos (by simp),d,c];simp only[aa,bne_iff_ne,ne_eq]
   by_cases g:(b.length:Int)=(a.length:Int)
   ·rw[if_neg (by simpa using g),gk,d2,iZ,ag,if_neg (by simp)];rfl
   ·rw[if_pos g,lf];rfl
def ju(l:List Int)(s:Int):List Int×Int:=if ak9 l≠0 then([],ak9 l)else if s<0∨s>62 then([],20)else(l.map (fun x=>(cq x s).1),0)
theorem Mg{n:Nat}{l:List Int}{s:Int}(h:ir l)(t:Hn0 n):oP n (l,s)=some (ju l s):=by
 rw[acT,ala (by omega)];unfold ju;simp only[aa,ag,bne_iff_ne,ne_eq]
 split
 ·rfl
 ·rename_i c;have q:l.length≤1048576:=by
   unfold ak9 at c
   split at c<;>omega
  rw[mT (by omega) (by omega)];simp only[aa]
  by_cases b:s<0∨s>62
  ·rw[if_pos b];have:(cq 0 s)=(0,20):=by unfold cq;rw[if_pos b]
   rw[this];rfl
  ·rw[if_neg b];have g:∀x,(cq x s).2=0:=fun x=>by unfold cq;rw[if_neg b]
   rw[g 0,gk];have p:Bx 8 (l.length:Int)=some l.length:=by
    unfold Bx room;rw[if_pos ⟨by omega,by omega,by omega⟩];simp
   rw[p];simp only[aa];have e:=ba (L:=fun k i o=>nX n k (s,(),l,(l.length:Int),i,o,())) (len:=l.length) (r:=((),l.map (fun x=>(cq x s).1),())) (fun i=>fill (fun j=>(cq (l.getD j 0) s).1) 0 l.length i) ?_ ?_ n (by omega)
   ·rw[ve]at e;rw[e];rfl
   ·intro k i a;show nX n (k+1) _=_;rw[Fe];simp only[ag,bx];have d:=h.at i;rw[lf,bn a 0];simp only[aa];rw[mT d.1 d.2,Hc _ _ a];simp only[aa];rw[Bj _ _ a,Bi _ _ a,aN];rfl
   ·intro k;show nX n (k+1) _=_;rw[Fe,ag,if_neg (by simp),Fx,S7 (fun x=>(cq x s).1)]
theorem C4{n:Nat}{l:List Int}{s:Int}(h:ir l)(p:Hn0 n):lA n (l,s)=some (ju l s):=by
 rw[V4];unfold ju ak9;simp only[ag,bx]
 by_cases d:(l.length:Int)>1048576
 ·have a:l.length>1048576:=by omega
  rw[if_pos d,if_pos a,if_pos (show(81:Int)≠0 by decide)]
 ·have a:¬ l.length>1048576:=by omega
  rw[if_neg d,if_neg a,if_neg (show ¬ (0:Int)≠0 by decide)]
  by_cases c:s<0
  ·rw[if_pos c,if_pos (.inl c)]
  ·rw[if_neg c]
   by_cases b:s>62
   ·rw[if_pos b,if_pos (.inr b)]
   ·rw[if_neg b,gk];have e:=ba (L:=fun k i o=>kK n k (s,o,l,(l.length:Int),i,())) (len:=l.length) (r:=(l.map (fun x=>(cq x s).1),())) (fun i=>dL (fun j=>(cq (l.getD j 0) s).1) i) ?_ ?_ n (by omega)
    ·rw[eF]at e;rw[e];rfl
    ·intro k i g;show kK n (k+1) _=_;rw[AV];simp only[ag,bx];have b:=h.at i;rw[lf,bn g 0];simp only[aa];rw[pk (by omega) b.1 b.2];simp only[aa];rw[fv (fun j=>(cq (l.getD j 0) s).1) (by unfold room;omega) (by unfold room;omega),aN];rfl
    ·intro k;show kK n (k+1) _=_;rw[AV,ag,if_neg (by simp),S7 (fun x=>(cq x s).1)]
def zi(l:List Int)(s:Int):List Int×Int:=((ju l s).1.map fk,(ju l s).2)
theorem PN{l:List Int}{s:Int}:(ju l s).1.length≤1048576∧((ju l s).2≠0→(ju l s).1=[]):=by
 unfold ju ak9
 by_cases a:l.length>1048576
 ·rw[if_pos a,if_pos (show(81:Int)≠0 by decide)];exact⟨by simp,fun _=>rfl⟩
 ·rw[if_neg a,if_neg (show ¬ (0:Int)≠0 by decide)]
  split
  ·exact⟨by simp,fun _=>rfl⟩
  ·exact⟨by simp;omega,fun h=>absurd rfl h⟩
theorem adS{n:Nat}{l:List Int}{s:Int}(g:ir l)(t:Hn0 n):sD n (l,s)=some (zi l s):=by
 rw[ZL,Mg g t];unfold zi;obtain⟨c,b⟩:=PN (l:=l) (s:=s);generalize ju l s=q at c b;obtain⟨l,e⟩:=q;simp only[aa,ag,bne_iff_ne,ne_eq]at c b ⊢
 split
 ·rename_i h;rw[b h];rfl
 ·rename_i h;have p:Bx 1 (l.length:Int)=some l.length:=by
   unfold Bx room;rw[if_pos ⟨by omega,by omega,by omega⟩];simp
  rw[p];simp only[aa];have d:=ba (L:=fun k i o=>l6 n k ((),l,(l.length:Int),i,o,())) (len:=l.length) (r:=((),l.map fk,())) (fun i=>fill (fun j=>fk (l.getD j 0)) 0 l.length i) ?_ ?_ n (by omega)
  ·rw[ve]at d;rw[d];have:e=0:=by omega
   rw[this];rfl
  ·intro k i a;show l6 n (k+1) _=_;rw[Cv];simp only[ag,bx];rw[lf,bn a 0];simp only[aa];rw[tX,Hc _ _ a];simp only[aa];rw[Bj _ _ a,Bi _ _ a,aN];rfl
  ·intro k;show l6 n (k+1) _=_;rw[Cv,ag,if_neg (by simp),Fx,S7 fk]
theorem S8{n:Nat}{l:List Int}{s:Int}(g:ir l)(h:Hn0 n):pa n (l,s)=some (zi l s):=by
 rw[SD,C4 g h];unfold zi;obtain⟨a,b⟩:=PN (l:=l) (s:=s);generalize ju l s=q at a b;obtain⟨l,e⟩:=q;simp only[aa]at a b ⊢;have c:=ba (L:=fun k i o=>jS n k (e,o,l,(l.length:Int),i,())) (len:=l.length) (r:=(e,l.map fk,())) (fun i=>dL (fun j=>fk (l.getD j 0)) i) ?_ ?_ n (by omega)
 ·rw[eF]at c;rw[c];rfl
 ·intro k i d;show jS n (k+1) _=_;rw[yi];simp only[ag,bx];rw[lf,bn d 0];simp only[aa];rw[tY];simp only[aa];rw[fv (fun j=>fk (l.getD j 0)) (by unfold room;omega) (by unfold room;omega),aN];rfl
 ·intro k;show jS n (k+1) _=_;rw[yi,ag,if_neg (by simp),S7 fk]
theorem least{p:Nat→Prop}:∀n,p n→∃i,p i∧(∀j,j<i→¬ p j)∧i≤n:=by
 intro n
 induction n using Nat.strongRecOn with
 |_ n o=>
  intro h
  by_cases d:∃j,j<n∧p j
  ·obtain⟨j,e,g⟩:=d;obtain⟨i,a,b,c⟩:=o j e g;exact⟨i,a,b,by omega⟩
  ·exact⟨n,h,fun j k l=>d ⟨j,k,l⟩,az _⟩
def nP(a b:List Int)(i:Nat):Int×Bool:=aji (a.getD i 0) (b.getD i 0)
open Classical in
noncomputable def S9(a b:List Int):List Int×Int:=
 if Hf a b≠0 then([],Hf a b)else if ∃i,i<a.length∧(nP a b i).2=false then([],82)else(dL (fun i=>(nP a b i).1) a.length,0)
theorem ag6{a b:List Int}(h:Hf a b=0):a.length≤1048576∧b.length≤1048576∧a.length=b.length:=by
 unfold Hf at h
 split at h
 ·cases h
 ·split at h
  ·cases h
  ·omega
theorem aoB{n:Nat}{a b:List Int}(x:ir a)(y:ir b)(J:Hn0 n):EG n (a,b)=some (S9 a b):=by
 rw[air,alb (by omega)];unfold S9;simp only[aa,ag,bne_iff_ne,ne_eq]
 by_cases e:Hf a b=0
 ·obtain⟨F,H,I⟩:=ag6 e;rw[if_neg (by simpa using e),if_neg (by simpa using e)];have D:Bx 8 (a.length:Int)=some a.length:=by
   unfold Bx room;rw[if_pos ⟨by omega,by omega,by omega⟩];simp
  rw[D];simp only[aa];have step:∀k i:Nat,i<a.length→mR n (k+1) (b,(),a,(a.length:Int),(i:Int),fill (fun j=>(nP a b j).1) 0 a.length i,())=
    if(nP a b i).2=false then some (Sum.inl ([],82,()))else mR n k (b,(),a,(a.length:Int),(i:Int)+1,fill (fun j=>(nP a b j).1) 0 a.length (i+1),()):=by
   intro k i d;rw[K9];simp only[ag,bx];have u:=x.at i;have w:=y.at i;rw[lf,bn d 0,bn (show i<b.length by omega) 0];simp only[aa];rw[apw u.1 u.2 w.1 w.2,Hc _ _ d];simp only[aa];rw[Bj _ _ d,aN];simp only[aa];rw[show aji (a.getD i 0) (b.getD i 0)=nP a b i from rfl,Bi (fun j=>(nP a b j).1) _ d];simp only[aZ]
  by_cases c:∃i,i<a.length∧(nP a b i).2=false
  ·rw[if_pos c];obtain⟨E,z,q⟩:=c;obtain⟨i,d,t,B⟩:=least (p:=fun i=>(nP a b i).2=false) E q;have g:=ba (L:=fun k i o=>mR n k (b,(),a,(a.length:Int),i,o,())) (len:=i) (r:=Sum.inl ([],82,())) (fun i=>fill (fun j=>(nP a b j).1) 0 a.length i)
    (fun k j l=>by rw[step k j (by omega),if_neg (t j l)]) (fun k=>by rw[step k i (by omega),if_pos d]) n (by omega)
   rw[ve]at g;rw[g];rfl
  ·rw[if_neg c];have g:=ba (L:=fun k i o=>mR n k (b,(),a,(a.length:Int),i,o,())) (len:=a.length) (r:=Sum.inr ((),dL (fun i=>(nP a b i).1) a.length,())) (fun i=>fill (fun j=>(nP a b j).1) 0 a.length i)
    (fun k j l=>by rw[step k j l,if_neg (fun h=>c ⟨j,l,h⟩)]) (fun k=>by
     show mR n (k+1) _=_;rw[K9,ag,if_neg (by simp),Fx]) n (by omega)
   rw[ve]at g;rw[g];rfl
 ·rw[if_pos (by simpa using e),if_pos (by simpa using e)]
theorem ag7{n:Nat}{a b:List Int}(B:ir a)(D:ir b)(I:Hn0 n):wQ n (a,b)=some (S9 a b):=by
 rw[adg];unfold S9;simp only[ag,bx,bne_iff_ne,ne_eq]
 by_cases g1:(a.length:Int)>1048576
 ·have e:Hf a b=81:=by unfold Hf;rw[if_pos (.inl (by omega))]
  rw[if_pos g1,e];rfl
 ·rw[if_neg g1]
  by_cases u:(b.length:Int)>1048576
  ·have e:Hf a b=81:=by unfold Hf;rw[if_pos (.inr (by omega))]
   rw[if_pos u,e];rfl
  ·rw[if_neg u]
   by_cases w:(a.length:Int)=(b.length:Int)
   ·have z:Hf a b=0:=by unfold Hf;rw[gk,gk]
    rw[if_neg (by simpa using w),z,if_neg (show ¬ ¬ (0:Int)=0 by simp)];have step:∀k i:Nat,i<a.length→jM n (k+1) (a,b,dL (fun j=>(nP a b j).1) i,(a.length:Int),(i:Int),())=
      if(nP a b i).2=false then some (Sum.inl ([],82,()))else jM n k (a,b,dL (fun j=>(nP a b j).1) (i+1),(a.length:Int),(i:Int)+1,()):=by
     intro k i q;rw[Fp];simp only[ag,bx];have x:=B.at i;have y:=D.at i;rw[lf,bn q 0,bn (show i<b.length by omega) 0];simp only[aa];rw[apx x.1 x.2 y.1 y.2];simp only[aa];rw[show aji (a.getD i 0) (b.getD i 0)=nP a b i from rfl,fv (fun j=>(nP a b j).1) (by unfold room;omega) (by unfold room;omega),aN];simp only[aa,aZ]
    by_cases c:∃i,i<a.length∧(nP a b i).2=false
    ·rw[if_pos c];obtain⟨H,E,l⟩:=c;obtain⟨i,q,t,F⟩:=least (p:=fun i=>(nP a b i).2=false) H l;have d:=ba (L:=fun k i o=>jM n k (a,b,o,(a.length:Int),i,())) (len:=i) (r:=Sum.inl ([],82,())) (fun i=>dL (fun j=>(nP a b j).1) i)
      (fun k j g=>by rw[step k j (by omega),if_neg (t j g)]) (fun k=>by rw[step k i (by omega),if_pos q]) n (by omega)
     rw[eF]at d;rw[d];rfl
    ·rw[if_neg c];have d:=ba (L:=fun k i o=>jM n k (a,b,o,(a.length:Int),i,())) (len:=a.length) (r:=Sum.inr (dL (fun i=>(nP a b i).1) a.length,())) (fun i=>dL (fun j=>(nP a b j).1) i)
      (fun k j g=>by rw[step k j g,if_neg (fun h=>c ⟨j,g,h⟩)]) (fun k=>by
       show jM n (k+1) _=_;rw[Fp,ag,if_neg (by simp)]) n (by omega)
     rw[eF]at d;rw[d];rfl
   ·have e:Hf a b=80:=by unfold Hf;rw[gk,lf]
    rw[if_pos w,e];rfl
theorem awk{a:Nat}{j:Nat}(b:(a+1)*2^(j+1)≤9223372036854775808):r9 .or .i64 ((a*2^(j+1):Nat):Int) ((2^j:Nat):Int)=((a*2^(j+1)+2^j:Nat):Int):=by
 have c:2^j<2^(j+1):=Nat.pow_lt_pow_right (by omega) (by omega);have d:a*2^(j+1)+2^j<9223372036854775808:=by
  rw[cF]at b;omega
 have h:(BitVec.ofInt (b9 .i64) ((a*2^(j+1):Nat):Int) ||| BitVec.ofInt (b9 .i64) ((2^j:Nat):Int)).toNat=a*2^(j+1)+2^j:=by
  show(BitVec.ofInt 64 ((a*2^(j+1):Nat):Int) ||| BitVec.ofInt 64 ((2^j:Nat):Int)).toNat=_;rw[BitVec.toNat_or,BitVec.ofInt_natCast,BitVec.ofInt_natCast,BitVec.toNat_ofNat,BitVec.toNat_ofNat,Nat.mod_eq_of_lt (by omega),Nat.mod_eq_of_lt (by omega)];rw[Nat.mul_comm,Nat.two_pow_add_eq_or_of_lt c]
 show ae .i64 (((BitVec.ofInt (b9 .i64) ((a*2^(j+1):Nat):Int) ||| BitVec.ofInt (b9 .i64) ((2^j:Nat):Int)).toNat:Nat):Int)=_;rw[h,aN]
def vf(x:Int)(r:Nat)(j:Nat):Nat:=if r+2^j≤3037000499∧((r+2^j:Nat):Int)*((r+2^j:Nat):Int)≤x then r+2^j else r
def sq(x:Int):Nat→Nat→Nat
 |0,r=>r
 |j+1,r=>sq x j (vf x r j)
def Lq:Nat→Nat
 |0=>0
 |j+1=>2^j
theorem adT(m:Nat):2^m/2=Lq m:=by
 cases m with
 |zero=>rfl
 |succ m=>show 2^(m+1)/2=2^m;rw[Nat.pow_succ];omega
theorem am6{x:Int}{m r a:Nat}(b:r=a*2^(m+1))(d:(a+1)*2^(m+1)≤4294967296):∃c,vf x r m=c*2^m∧(c+1)*2^m≤4294967296:=by
 unfold vf;rw[Nat.pow_succ,←Nat.mul_assoc]at d b;rw[cF]at d
 split
 ·refine⟨2*a+1,?_,?_⟩
  ·rw[b,cF,Nat.mul_assoc 2 a];omega
  ·rw[cF,cF,Nat.mul_assoc 2 a];omega
 ·refine⟨2*a,?_,?_⟩
  ·rw[b,Nat.mul_assoc 2 a];omega
  ·rw[cF,Nat.mul_assoc 2 a];omega
theorem am7{s:Nat}:s≤3037000499↔s*s≤9223372036854775807:=by
 constructor
 ·intro h;have:=bD h h;omega
 ·intro h
  by_cases a:s≤3037000499
  ·exact a
  ·have:=bD (show 3037000500≤s by omega) (show 3037000500≤s by omega);omega
theorem aoC{m:Nat}{a:Nat}(b:(a+1)*2^m≤4294967296):2^m≤4294967296∧0<2^m:=by
 refine⟨?_,Nat.two_pow_pos m⟩;have:=Nat.le_mul_of_pos_left (2^m) (show 0<a+1 by omega);omega
theorem rp{n:Nat}{x:Int}:∀(m k r a:Nat),r=a*2^m→(a+1)*2^m≤4294967296→m<k→oM n k (x,(r:Int),(Lq m:Int),())=some (((sq x m r:Nat):Int),())
 |0,k,r,a,p,q,D=>by
  obtain⟨k,rfl⟩:∃i,k=i+1:=⟨k -1,by omega⟩;rw[Cu,ag,if_neg (by simp[Lq])];rfl
 |m+1,k,r,a,p,q,D=>by
  obtain⟨k,rfl⟩:∃i,k=i+1:=⟨k -1,by omega⟩;have K:=aoC q;obtain⟨u,w,t⟩:=am6 (x:=x) p q;have I:=aoC t;rw[Cu];simp only[ag,bx];rw[show Lq (m+1)=2^m from rfl,lf];have H:r9 .or .i64 (r:Int) ((2^m:Nat):Int)=((r+2^m:Nat):Int):=by
   rw[p];exact awk (by omega)
  rw[H];obtain⟨s,z⟩:∃s,s=r+2^m:=⟨_,rfl⟩;have B:s<4294967296:=by
   rw[z,p];rw[cF]at q;have:2^m<2^(m+1):=Nat.pow_lt_pow_right (by omega) (by omega);omega
  rw[←z];obtain⟨d,y⟩:∃d,d=9223372036854775807/s:=⟨_,rfl⟩;have E:d≤9223372036854775807:=by rw[y];exact Nat.div_le_self _ _
  have J:qt .i64 9223372036854775807 (s:Int)=some (d:Int):=by
   have e:(9223372036854775807:Int).tdiv (s:Int)=(d:Int):=by
    rw[aK (by omega),y];rfl
   rw[zh (by omega) (by rw[e];omega) (by rw[e];omega),e]
  rw[J];simp only[aa];have c:ui .i64 ((2^m:Nat):Int) 1=some ((Lq m:Nat):Int):=by
   unfold ui;rw[gk];show some (((2^m:Nat):Int).fdiv 2)=_;rw[Int.fdiv_eq_ediv_of_nonneg _ (by omega),←adT];rfl
  have l:((s:Int)≤(d:Int))↔s≤3037000499:=by
   rw[am7,←Nat.le_div_iff_mul_le (by omega),←y];omega
  have b:vf x r m=if s≤3037000499∧(s:Int)*(s:Int)≤x then s else r:=by unfold vf;rw[←z]
  by_cases g:s≤3037000499
  ·rw[if_pos (l.2 g)];have F:=am7.1 g;have j:(s:Int)*(s:Int)=((s*s:Nat):Int):=by simp
   rw[aN (by rw[j];omega) (by rw[j];omega)]
   by_cases o:(s:Int)*(s:Int)≤x
   ·rw[if_pos o];simp only[aa];rw[c];simp only[aa];rw[if_pos ⟨g,o⟩]at b;have:=rp (n:=n) (x:=x) m k s u (by rw[←w,b]) t (by omega);rw[this,show sq x (m+1) r=sq x m (vf x r m)from rfl,b]
   ·rw[if_neg o];simp only[aa];rw[c];simp only[aa];rw[if_neg (fun h=>o h.2)]at b;have:=rp (n:=n) (x:=x) m k r u (by rw[←w,b]) t (by omega);rw[this,show sq x (m+1) r=sq x m (vf x r m)from rfl,b]
  ·rw[if_neg (fun h=>g (l.1 h))];rw[c];simp only[aa];rw[if_neg (fun h=>g h.1)]at b;have:=rp (n:=n) (x:=x) m k r u (by rw[←w,b]) t (by omega);rw[this,show sq x (m+1) r=sq x m (vf x r m)from rfl,b]
theorem rq{n:Nat}{x:Int}:∀(m k r a:Nat),r=a*2^m→(a+1)*2^m≤4294967296→m<k→oZ n k (x,(r:Int),(Lq m:Int),())=some (((sq x m r:Nat):Int),())
 |0,k,r,a,p,g,y=>by
  obtain⟨k,rfl⟩:∃i,k=i+1:=⟨k -1,by omega⟩;rw[CI,ag,if_neg (by simp[Lq])];rfl
 |m+1,k,r,a,p,g,y=>by
  obtain⟨k,rfl⟩:∃i,k=i+1:=⟨k -1,by omega⟩;have E:=aoC g;obtain⟨l,q,j⟩:=am6 (x:=x) p g;have D:=aoC j;rw[CI];simp only[ag,bx];rw[show Lq (m+1)=2^m from rfl,lf];obtain⟨s,u⟩:∃s,s=r+2^m:=⟨_,rfl⟩;have w:s<4294967296:=by
   rw[u,p];rw[cF]at g;have:2^m<2^(m+1):=Nat.pow_lt_pow_right (by omega) (by omega);omega
  have z:(r:Int)+((2^m:Nat):Int)=(s:Int):=by rw[u];simp
  rw[z,aN (x:=(s:Int))];have t:qt .i64 ((2^m:Nat):Int) 2=some ((Lq m:Nat):Int):=by
   have e:(((2^m:Nat):Int)).tdiv 2=((2^m/2:Nat):Int):=by
    rw[aK (by omega)];rfl
   rw[zh (by omega) (by rw[e];omega) (by rw[e];omega),e,adT]
  have b:vf x r m=if s≤3037000499∧(s:Int)*(s:Int)≤x then s else r:=by unfold vf;rw[←u]
  by_cases o:s≤3037000499
  ·rw[lf];have B:=am7.1 o;have c:(s:Int)*(s:Int)=((s*s:Nat):Int):=by simp
   rw[aN (by rw[c];omega) (by rw[c];omega)]
   by_cases d:(s:Int)*(s:Int)≤x
   ·rw[if_pos d];simp only[aa];rw[t];simp only[aa];rw[if_pos ⟨o,d⟩]at b;have:=rq (n:=n) (x:=x) m k s l (by rw[←q,b]) j (by omega);rw[this,show sq x (m+1) r=sq x m (vf x r m)from rfl,b]
   ·rw[if_neg d];simp only[aa];rw[t];simp only[aa];rw[if_neg (fun h=>d h.2)]at b;have:=rq (n:=n) (x:=x) m k r l (by rw[←q,b]) j (by omega);rw[this,show sq x (m+1) r=sq x m (vf x r m)from rfl,b]
  ·rw[gk];simp only[aa];rw[t];simp only[aa];rw[if_neg (fun h=>o h.1)]at b;have:=rq (n:=n) (x:=x) m k r l (by rw[←q,b]) j (by omega);rw[this,show sq x (m+1) r=sq x m (vf x r m)from rfl,b]
theorem aoD:∃f:Int→Int,∀x,f x=((sq x 32 0:Nat):Int):=⟨_,fun _=>rfl⟩
noncomputable def ag8:Int→Int:=Classical.choose aoD
theorem adU(x:Int):ag8 x=((sq x 32 0:Nat):Int):=Classical.choose_spec aoD x
theorem ars{x:Int}:∀(m r a:Nat),r=a*2^m→(a+1)*2^m≤4294967296→sq x m r<4294967296
 |0,r,a,b,c=>by show r<_;omega
 |m+1,r,a,b,c=>by
  obtain⟨d,e,g⟩:=am6 (x:=x) b c;exact ars m _ d e g
theorem ag9(x:Int):0≤ag8 x∧ag8 x<4294967296:=by
 have:=ars (x:=x) 32 0 0 (by simp) (by decide);rw[adU];omega
theorem am8{n:Nat}(a:100≤n){x:Int}(hx:0≤x):yG n x=some (ag8 x,0):=by
 rw[ZK,ag,if_neg (by simp;omega)];have:=rp (n:=n) (x:=x) 32 n 0 0 (by simp) (by decide) (by omega);rw[show((Lq 32:Nat):Int)=2147483648 from rfl]at this;rw[show((0:Nat):Int)=0 from rfl]at this;rw[this,adU];rfl
theorem am9{n:Nat}(a:100≤n){x:Int}(hx:0≤x):yW n x=some (ag8 x,0):=by
 rw[aaa,ag,if_neg (by simp;omega)];have:=rq (n:=n) (x:=x) 32 n 0 0 (by simp) (by decide) (by omega);rw[show((Lq 32:Nat):Int)=2147483648 from rfl]at this;rw[show((0:Nat):Int)=0 from rfl]at this;rw[this,adU];rfl
theorem FA{g:Nat→Int}{m:Int}:∀i:Nat,(∀j,j<i→0≤g j∧g j≤m)→0≤gn g i∧gn g i≤i*m
 |0,_=>by simp[gn]
 |i+1,h=>by
  have a:=FA i (fun j c=>h j (by omega));have b:=h i (by omega);simp only[gn];rw[show((i+1:Nat):Int)*m=i*m+m by rw[Int.natCast_add,Int.add_mul];simp];omega
def pR(l:List Int)(i:Nat):Prop:=l.getD i 0< -268435456∨l.getD i 0>268435456
def sqs(l:List Int)(i:Nat):Int:=gn (fun i=>l.getD i 0*l.getD i 0) i
open Classical in
noncomputable def fQ(l:List Int):Int×Int:=
 if l.length=0∨l.length>64 then(0,1)else if ∃i,i<l.length∧pR l i then(0,90)else(imax 1 (ag8 (sqs l l.length/(l.length:Int))),0)
theorem art{x m:Int}(e: -m≤x)(d:x≤m):0≤x*x∧x*x≤m*m:=by
 have h:∀y:Int,0≤y→y≤m→0≤y*y∧y*y≤m*m:=fun y a b=>⟨cp a a,dA b b a (by omega)⟩
 by_cases c:0≤x
 ·exact h x c d
 ·have:=h (-x) (by omega) (by omega);rwa[Int.neg_mul_neg]at this
theorem aa8{l:List Int}{i:Nat}(h:∀j,j<i→¬ pR l j):0≤sqs l i∧sqs l i≤i*72057594037927936:=
 FA i fun j b=>by
  have a: -268435456≤l.getD j 0∧l.getD j 0≤268435456:=by
   have:=h j b;unfold pR at this;omega
  exact art a.1 a.2
theorem aru{x:Int}(h:0≤x):imax 1 x=if x=0 then 1 else x:=by
 unfold imax
 split<;>split<;>omega
theorem apz{n:Nat}{l:List Int}(K:Hn0 n):BW n l=some (fQ l):=by
 rw[acS];unfold fQ;simp only[ag,bx,beq_iff_eq]
 by_cases z:(l.length:Int)=0
 ·rw[if_pos z,if_pos (.inl (by omega))]
 ·rw[if_neg z]
  by_cases B:(l.length:Int)>64
  ·rw[if_pos B,if_pos (.inr (by omega))]
  ·rw[if_neg B,if_neg (show ¬ (l.length=0∨l.length>64)by omega)];have step:∀k i:Nat,i<l.length→(∀j,j<i→¬ pR l j)→(pR l i→iL n (k+1) (l,sqs l i,l,(l.length:Int),(i:Int),())=some (Sum.inl (0,90,())))∧
     (¬ pR l i→iL n (k+1) (l,sqs l i,l,(l.length:Int),(i:Int),())=iL n k (l,sqs l (i+1),l,(l.length:Int),(i:Int)+1,())):=by
    intro k i w b;rw[Fc];simp only[ag,bx];rw[lf,bn w 0];simp only[aa];refine⟨fun c=> ?_,fun c=> ?_⟩
    ·rcases c with c |c
     ·rw[if_pos c]
     ·rw[gk,if_pos c]
    ·have D: -268435456≤l.getD i 0∧l.getD i 0≤268435456:=by
      unfold pR at c;omega
     have J:=art D.1 D.2;have q:=aa8 b;rw[gk,gk,aN (x:=l.getD i 0*l.getD i 0),aN (x:=(i:Int)+1),aN];rfl
   by_cases a:∃i,i<l.length∧pR l i
   ·rw[if_pos a];obtain⟨I,F,u⟩:=a;obtain⟨i,w,e,H⟩:=least (p:=fun i=>pR l i) I u;have t:=ba (L:=fun k i o=>iL n k (l,o,l,(l.length:Int),i,())) (len:=i) (r:=Sum.inl (0,90,())) (fun i=>sqs l i)
     (fun k j b=>(step k j (by omega) (fun y h=>e y (by omega))).2 (e j b)) (fun k=>(step k i (by omega) e).1 w) n (by omega)
    rw[show sqs l 0=0 from rfl]at t;rw[t];rfl
   ·rw[if_neg a];have g:∀j,j<l.length→¬ pR l j:=fun j b h=>a ⟨j,b,h⟩;have t:=ba (L:=fun k i o=>iL n k (l,o,l,(l.length:Int),i,())) (len:=l.length) (r:=Sum.inr (l,sqs l l.length,())) (fun i=>sqs l i)
     (fun k j b=>(step k j b (fun y h=>g y (by omega))).2 (g j b)) (fun k=>by
      show iL n (k+1) _=_;rw[Fc,ag,if_neg (by simp)]) n (by omega)
    rw[show sqs l 0=0 from rfl]at t;rw[t];have q:=aa8 g;simp only[aa,cI];have E:=(jz (x:=sqs l l.length) (d:=(l.length:Int)) (by omega)).1 q.1;rw[zh (by omega) (by rw[aK q.1];omega) (by rw[aK q.1];omega),aK q.1];simp only[aa];rw[am8 (by omega) E.1];rfl
theorem ana{n:Nat}{l:List Int}(K:Hn0 n):yX n l=some (fQ l):=by
 rw[aab];unfold fQ;simp only[ag,bx,beq_iff_eq]
 by_cases z:(l.length:Int)<1
 ·rw[if_pos z,if_pos (.inl (by omega))]
 ·rw[if_neg z]
  by_cases B:(l.length:Int)>64
  ·rw[if_pos B,if_pos (.inr (by omega))]
  ·rw[if_neg B,if_neg (show ¬ (l.length=0∨l.length>64)by omega)];have step:∀k i:Nat,i<l.length→(∀j,j<i→¬ pR l j)→(pR l i→gR n (k+1) (l,sqs l i,(i:Int),())=some (Sum.inl (0,90,())))∧
     (¬ pR l i→gR n (k+1) (l,sqs l i,(i:Int),())=gR n k (l,sqs l (i+1),(i:Int)+1,())):=by
    intro k i w b;rw[CJ];simp only[ag,bx];rw[lf,bn w 0];simp only[aa];refine⟨fun c=> ?_,fun c=> ?_⟩
    ·rcases c with c |c
     ·rw[gk,if_pos c]
     ·rw[if_pos c]
    ·have D: -268435456≤l.getD i 0∧l.getD i 0≤268435456:=by
      unfold pR at c;omega
     have J:=art D.1 D.2;have q:=aa8 b;rw[gk,gk,aN (x:=l.getD i 0*l.getD i 0),aN (x:=(i:Int)+1),aN];rfl
   by_cases a:∃i,i<l.length∧pR l i
   ·rw[if_pos a];obtain⟨I,F,u⟩:=a;obtain⟨i,w,e,H⟩:=least (p:=fun i=>pR l i) I u;have t:=ba (L:=fun k i o=>gR n k (l,o,i,())) (len:=i) (r:=Sum.inl (0,90,())) (fun i=>sqs l i)
     (fun k j b=>(step k j (by omega) (fun y h=>e y (by omega))).2 (e j b)) (fun k=>(step k i (by omega) e).1 w) n (by omega)
    rw[show sqs l 0=0 from rfl]at t;rw[t];rfl
   ·rw[if_neg a];have g:∀j,j<l.length→¬ pR l j:=fun j b h=>a ⟨j,b,h⟩;have t:=ba (L:=fun k i o=>gR n k (l,o,i,())) (len:=l.length) (r:=Sum.inr (l,sqs l l.length,())) (fun i=>sqs l i)
     (fun k j b=>(step k j b (fun y h=>g y (by omega))).2 (g j b)) (fun k=>by
      show gR n (k+1) _=_;rw[CJ,ag,if_neg (by simp)]) n (by omega)
    rw[show sqs l 0=0 from rfl]at t;rw[t];have q:=aa8 g;simp only[aa,cI];have E:=(jz (x:=sqs l l.length) (d:=(l.length:Int)) (by omega)).1 q.1;rw[zh (by omega) (by rw[aK q.1];omega) (by rw[aK q.1];omega),aK q.1];simp only[aa];rw[am9 (by omega) E.1,aru (ag9 _).1];simp only[aa]
    split<;>rfl
def vg(l fV:List Int)(r:Int)(i:Nat):Int:=fk (cq ((64*l.getD i 0).tdiv r*fV.getD i 0) 6).1
noncomputable def mO(l fV:List Int):List Int×Int:=
 if l.length≠fV.length then([],1)else if(fQ l).2≠0 then([],(fQ l).2)else(dL (vg l fV (fQ l).1) l.length,0)
theorem adV{l:List Int}(h:(fQ l).2=0):1≤l.length∧l.length≤64∧(∀j,j<l.length→¬ pR l j)∧1≤(fQ l).1∧(fQ l).1≤4294967296:=by
 unfold fQ at h ⊢
 by_cases b:l.length=0∨l.length>64
 ·rw[if_pos b]at h;cases h
 ·rw[if_neg b]at h ⊢
  by_cases a:∃i,i<l.length∧pR l i
  ·rw[if_pos a]at h;cases h
  ·rw[if_neg a];have:=ag9 (sqs l l.length/(l.length:Int));refine⟨by omega,by omega,fun j d c=>a ⟨j,d,c⟩,?_,?_⟩
   ·show 1≤imax 1 _;rw[aru this.1];split<;>omega
   ·show imax 1 _≤_;rw[aru this.1];split<;>omega
theorem ajl{a b m k:Int}(i: -m≤a∧a≤m)(j: -k≤b∧b≤k): -(m*k)≤a*b∧a*b≤m*k:=by
 have h:∀a b:Int,0≤a→a≤m→0≤b→b≤k→0≤a*b∧a*b≤m*k:=fun a b d c e g=>
  ⟨cp d e,dA c g e (by omega)⟩
 by_cases d:0≤a
 ·by_cases c:0≤b
  ·have:=h a b d (by omega) c (by omega);omega
  ·have:=h a (-b) d (by omega) (by omega) (by omega);rw[Int.mul_neg]at this;omega
 ·by_cases c:0≤b
  ·have:=h (-a) b (by omega) (by omega) c (by omega);rw[Int.neg_mul]at this;omega
  ·have:=h (-a) (-b) (by omega) (by omega) (by omega) (by omega);rw[Int.neg_mul_neg]at this;omega
theorem XO{l fV:List Int}{r:Int}{i:Nat}(d:bh fV)(c:¬ pR l i)(e:1≤r):(-268435456≤l.getD i 0∧l.getD i 0≤268435456)∧(-17179869184≤(64*l.getD i 0).tdiv r∧(64*l.getD i 0).tdiv r≤17179869184)∧
  (-(17179869184*128)≤(64*l.getD i 0).tdiv r*fV.getD i 0∧(64*l.getD i 0).tdiv r*fV.getD i 0≤17179869184*128):=by
 have b: -268435456≤l.getD i 0∧l.getD i 0≤268435456:=by
  unfold pR at c;omega
 have g:=adM (x:=64*l.getD i 0) e;have a: -17179869184≤(64*l.getD i 0).tdiv r∧(64*l.getD i 0).tdiv r≤17179869184:=by omega
 have h:=d.at i;exact⟨b,a,ajl a (by omega)⟩
theorem Ta{n:Nat}{l fV:List Int}(e:bh fV)(p:Hn0 n):rA n (l,fV)=some (mO l fV):=by
 rw[afw];unfold mO;simp only[ag,bx,bne_iff_ne,ne_eq]
 by_cases c:(l.length:Int)=(fV.length:Int)
 ·rw[if_neg (by simpa using c),if_neg (show ¬ ¬ l.length=fV.length by omega),apz p];simp only[aa]
  by_cases a:(fQ l).2=0
  ·rw[if_neg (by simpa using a),if_neg (by simpa using a)];obtain⟨q,t,g,h,u⟩:=adV a;have j:Bx 1 (l.length:Int)=some l.length:=by
    unfold Bx room;rw[if_pos ⟨by omega,by omega,by omega⟩];simp
   rw[j];simp only[aa];have d:=ba (L:=fun k i o=>py n k (fV,(fQ l).1,(),l,(l.length:Int),i,o,())) (len:=l.length) (r:=((),dL (vg l fV (fQ l).1) l.length,())) (fun i=>fill (vg l fV (fQ l).1) 0 l.length i) ?_ ?_ n (by omega)
   ·rw[ve]at d;rw[d];rfl
   ·intro k i b;show py n (k+1) _=_;rw[Iy];simp only[ag,bx];obtain⟨b1,w,y⟩:=XO e (g i b) h;have z:=e.at i;rw[lf,bn b 0];simp only[aa];rw[aN (x:=64*l.getD i 0),zh (by omega) (by omega) (by omega),bn (show i<fV.length by omega) 0];simp only[aa];rw[aN (x:=fV.getD i 0),aN (x:=(64*l.getD i 0).tdiv (fQ l).1*fV.getD i 0),mT (by omega) (by omega)];simp only[aa];rw[tX,Hc _ _ b];simp only[aa];rw[Bj _ _ b,aN];simp only[aa];rw[show fk (cq ((64*l.getD i 0).tdiv (fQ l).1*fV.getD i 0) 6).1=vg l fV (fQ l).1 i from rfl,Bi _ _ b]
   ·intro k;show py n (k+1) _=_;rw[Iy,ag,if_neg (by simp),Fx]
  ·rw[if_pos a,if_pos a]
 ·rw[if_pos c,lf]
theorem Mh{n:Nat}{l fV:List Int}(j:bh fV)(u:Hn0 n):o8 n (l,fV)=some (mO l fV):=by
 rw[adc];unfold mO;simp only[ag,bx,bne_iff_ne,ne_eq]
 by_cases g:(l.length:Int)=(fV.length:Int)
 ·rw[if_neg (by simpa using g),if_neg (show ¬ ¬ l.length=fV.length by omega),ana u];simp only[aa]
  by_cases c:(fQ l).2=0
  ·rw[if_neg (by simpa using c),if_neg (by simpa using c)];obtain⟨z,B,p,e,D⟩:=adV c;have h:=ba (L:=fun k i o=>oa n k (l,fV,(fQ l).1,o,i,())) (len:=l.length) (r:=(dL (vg l fV (fQ l).1) l.length,())) (fun i=>dL (vg l fV (fQ l).1) i) ?_ ?_ n (by omega)
   ·rw[eF]at h;rw[h];rfl
   ·intro k i d;show oa n (k+1) _=_;rw[Fl];simp only[ag,bx];obtain⟨b1,E,F⟩:=XO j (p i d) e;have H:=j.at i;rw[lf,bn d 0];simp only[aa];have q:(if l.getD i 0<0 then some (l,fV,(fQ l).1,dL (vg l fV (fQ l).1) i,(i:Int),ae .i64 (0 -l.getD i 0),())else some (l,fV,(fQ l).1,dL (vg l fV (fQ l).1) i,(i:Int),l.getD i 0,()))=
      some (l,fV,(fQ l).1,dL (vg l fV (fQ l).1) i,(i:Int),(if l.getD i 0<0 then -l.getD i 0 else l.getD i 0),()):=by
     split
     ·rw[aN];simp
     ·rfl
    rw[q];simp only[aa];obtain⟨y,b⟩:∃y,y=(if l.getD i 0<0 then -l.getD i 0 else l.getD i 0):=⟨_,rfl⟩;have w:0≤y∧y≤268435456:=by rw[b];split<;>omega
    rw[←b];have I:=(adM (x:=64*y) e).1 (by omega);rw[aN (x:=64*y),zh (by omega) (by omega) (by omega)];simp only[aa];rw[bn d 0];simp only[aa];have t:(if l.getD i 0<0 then some (l,fV,(fQ l).1,dL (vg l fV (fQ l).1) i,(i:Int),ae .i64 (0 -(64*y).tdiv (fQ l).1),())else some (l,fV,(fQ l).1,dL (vg l fV (fQ l).1) i,(i:Int),(64*y).tdiv (fQ l).1,()))=
      some (l,fV,(fQ l).1,dL (vg l fV (fQ l).1) i,(i:Int),(64*l.getD i 0).tdiv (fQ l).1,()):=by
     split
     ·rename_i a;rw[if_pos a]at b;rw[aN,b,Int.mul_neg,Int.neg_tdiv];simp
     ·rename_i a;rw[if_neg a]at b;rw[b]
    rw[t];simp only[aa];rw[bn (show i<fV.length by omega) 0];simp only[aa];rw[aN (x:=fV.getD i 0),aN (x:=(64*l.getD i 0).tdiv (fQ l).1*fV.getD i 0),pk (by omega) (by omega) (by omega)];simp only[aa];rw[tY];simp only[aa];rw[show fk (cq ((64*l.getD i 0).tdiv (fQ l).1*fV.getD i 0) 6).1=vg l fV (fQ l).1 i from rfl,fv _ (by unfold room;omega) (by unfold room;omega),aN];rfl
   ·intro k;show oa n (k+1) _=_;rw[Fl,ag,if_neg (by simp)]
  ·rw[if_pos c,if_pos c]
 ·rw[if_pos g,lf]
def kk(sz p:Nat):Nat:=(2*p % sz)/2
def auO(x cos sin:List Int)(sz p:Nat):Int:=fk (cq (x.getD (2*p) 0*cos.getD (kk sz p) 0 -x.getD (2*p+1) 0*sin.getD (kk sz p) 0) 6).1
def auP(x cos sin:List Int)(sz p:Nat):Int:=fk (cq (x.getD (2*p) 0*sin.getD (kk sz p) 0+x.getD (2*p+1) 0*cos.getD (kk sz p) 0) 6).1
def ua(x cos sin:List Int)(sz i:Nat):Int:=if i % 2=0 then auO x cos sin sz (i/2)else auP x cos sin sz (i/2)
def FB(x:List Int)(size:Int)(cos sin:List Int):List Int×Int:=
 if size<2∨size % 2≠0∨(x.length:Int) % size≠0 then([],100)else if(cos.length:Int)≠size/2∨(sin.length:Int)≠size/2 then([],101)else(dL (ua x cos sin size.toNat) x.length,0)
theorem adW(x cos sin:List Int)(sz p:Nat):ua x cos sin sz (2*p)=auO x cos sin sz p:=by
 unfold ua;rw[lf,show 2*p/2=p by omega]
theorem aha(x cos sin:List Int)(sz p:Nat):ua x cos sin sz (2*p+1)=auP x cos sin sz p:=by
 unfold ua;rw[gk,show(2*p+1)/2=p by omega]
theorem auQ{sz p:Nat}(h:2≤sz)(a:sz % 2=0):kk sz p<sz/2:=by
 unfold kk;have:=Nat.mod_lt (2*p) (show 0<sz by omega);omega
theorem C5{a b:Int}(c:0≤a:=by omega)(d:b≠0:=by omega):rm a b=some (a % b):=by rw[kT d,Int.tmod_eq_emod_of_nonneg c]
theorem nw{a b:Int}(c:0≤a)(d:a≤9223372036854775807)(e:1≤b):qt .i64 a b=some (a/b):=by
 have h:=(jz (x:=a) e).1 c;rw[zh (by omega) (by rw[aK c];omega) (by rw[aK c];omega),aK c]
theorem ahb{x cos sin:List Int}{size:Int}(p:size≤9223372036854775807){K:Option (List Int×Int)}
  (j:2≤size→size % 2=0→(x.length:Int) % size=0→(cos.length:Int)=size/2→(sin.length:Int)=size/2→K=some (dL (ua x cos sin size.toNat) x.length,0)):
  (av (decide (size<(2:Int)))
   (some ([],(100:Int)))
   (((rm size (2:Int))).bind fun k=>
   av (k !=(0:Int))
    (some ([],(100:Int)))
    (((rm (((af x):Nat):Int) size)).bind fun l=>
    av (l !=(0:Int))
     (some ([],(100:Int)))
     (((qt bz size (2:Int))).bind fun n=>
     av ((((af cos):Nat):Int)!=n)
      (some ([],(101:Int)))
      (((qt bz size (2:Int))).bind fun o=>
      av ((((af sin):Nat):Int)!=o)
       (some ([],(101:Int))) K)))))=some (FB x size cos sin):=by
 unfold FB;simp only[ag,bx,bne_iff_ne,ne_eq]
 by_cases e:size<2
 ·rw[if_pos e,if_pos (.inl e)]
 ·rw[if_neg e,C5];simp only[aa]
  by_cases a:size % 2=0
  ·rw[if_neg (by simpa using a),C5];simp only[aa]
   by_cases b:(x.length:Int) % size=0
   ·rw[if_neg (by simpa using b),nw (by omega) (by omega) (by omega)];simp only[aa];have g:¬ (size<2∨¬ size % 2=0∨¬ (x.length:Int) % size=0):=by
     rintro(h |h |h)
     ·exact e h
     ·exact h a
     ·exact h b
    rw[if_neg g]
    by_cases c:(cos.length:Int)=size/2
    ·rw[if_neg (by simpa using c)]
     by_cases d:(sin.length:Int)=size/2
     ·have i:¬ (¬ (cos.length:Int)=size/2∨¬ (sin.length:Int)=size/2):=by
       rintro(h |h)
       ·exact h c
       ·exact h d
      rw[if_neg (by simpa using d),if_neg i];exact j (by omega) a b c d
     ·rw[if_pos d,if_pos (.inr d)]
    ·rw[if_pos c,if_pos (.inl c)]
   ·rw[if_pos b,if_pos (.inr (.inr b))]
  ·rw[if_pos a,if_pos (.inr (.inl a))]
theorem alc{l size:Nat}(h:l % size=0)(a:size % 2=0):l % 2=0:=
 Nat.mod_eq_zero_of_dvd (Nat.dvd_trans (Nat.dvd_of_mod_eq_zero a) (Nat.dvd_of_mod_eq_zero h))
theorem ub{l:List Int}{i:Int}{j:Nat}(a:i=(j:Int):=by omega)(h:j<l.length:=by omega):idx l i=some (l.getD j 0):=by rw[a];exact bn h 0
theorem ahc{n:Nat}{x cos sin:List Int}{size:Int}(hx:bh x)(q:bh cos)(c:bh sin)(w:size≤9223372036854775807)(H:x.length≤1000000000)(I:Hn0 n):wM n (x,size,cos,sin)=some (FB x size cos sin):=by
 rw[acU,wZ];rw[ahb (x:=x) w ?_]
 ·rfl
 ·intro y z B D E;obtain⟨sz,rfl⟩:∃sz:Nat,size=(sz:Int):=⟨size.toNat,by omega⟩;rw[ax];have t:=alc (l:=x.length) (size:=sz) (by omega) (by omega);have u:Bx 1 (x.length:Int)=some x.length:=by
   unfold Bx room;rw[if_pos ⟨by omega,by omega,by omega⟩];simp
  rw[u];simp only[aa];have b:=ba (L:=fun k i o=>dD n k (x,(sz:Int),cos,sin,(),(),2*i,o,())) (len:=x.length/2) (r:=((),dL (ua x cos sin sz) x.length,())) (fun p=>fill (ua x cos sin sz) 0 x.length (2*p)) ?_ ?_ n (by omega)
  ·rw[show 2*0=0 from rfl,ve]at b;rw[show(2:Int)*0=0 from rfl]at b;rw[b];rfl
  ·intro k p J;show dD n (k+1) _=_;rw[lN];simp only[ag,bx];have F:=auQ (sz:=sz) (p:=p) (by omega) (by omega);have b1:=hx.at (2*p);have d:=hx.at (2*p+1);have e:=q.at (kk sz p);have g:=c.at (kk sz p);have m1:=Wl b1 e;have K:=Wl d g;have M:=Wl b1 g;have N:=Wl d e;rw[lf,C5];simp only[aa];have a:(2*(p:Int)) % (sz:Int)=((2*p % sz:Nat):Int):=by simp
   have h:=Nat.mod_lt (2*p) (show 0<sz by omega);rw[a,nw (by omega) (by omega) (by omega),aN (x:=2*(p:Int)+1)];simp only[aa];rw[ub (j:=2*p) (by omega) (by omega),ub (j:=2*p+1) (by omega) (by omega)];simp only[aa];rw[ub (l:=cos) (j:=kk sz p) (by unfold kk;omega) (by omega),ub (l:=sin) (j:=kk sz p) (by unfold kk;omega) (by omega)];simp only[aa];rw[aN (x:=x.getD (2*p) 0),aN (x:=x.getD (2*p+1) 0),aN (x:=cos.getD (kk sz p) 0),aN (x:=sin.getD (kk sz p) 0),VA];simp only[aa];rw[aN (x:=x.getD (2*p) 0*cos.getD (kk sz p) 0),aN (x:=x.getD (2*p+1) 0*sin.getD (kk sz p) 0),aN (x:=x.getD (2*p) 0*sin.getD (kk sz p) 0),aN (x:=x.getD (2*p+1) 0*cos.getD (kk sz p) 0)];rw[aN (x:=x.getD (2*p) 0*cos.getD (kk sz p) 0 -x.getD (2*p+1) 0*sin.getD (kk sz p) 0),aN (x:=x.getD (2*p) 0*sin.getD (kk sz p) 0+x.getD (2*p+1) 0*cos.getD (kk sz p) 0)];rw[Ff,Ff,mT (by omega) (by omega),mT (by omega) (by omega)];simp only[aa];rw[tX,tX];simp only[aa];rw[show fk (cq (x.getD (2*p) 0*cos.getD (kk sz p) 0 -x.getD (2*p+1) 0*sin.getD (kk sz p) 0) 6).1=ua x cos sin sz (2*p)from(adW _ _ _ _ _).symm,
    show fk (cq (x.getD (2*p) 0*sin.getD (kk sz p) 0+x.getD (2*p+1) 0*cos.getD (kk sz p) 0) 6).1=ua x cos sin sz (2*p+1)from(aha _ _ _ _ _).symm]
   rw[show(2*(p:Int))=((2*p:Nat):Int)by simp,show((2*p:Nat):Int)+1=((2*p+1:Nat):Int)by simp];rw[Hc _ _ (show 2*p<x.length by omega)];simp only[aa];rw[Bj _ _ (show 2*p<x.length by omega),Bi _ _ (show 2*p<x.length by omega)];simp only[aa];rw[Hc _ _ (show 2*p+1<x.length by omega)];simp only[aa];rw[Bj _ _ (show 2*p+1<x.length by omega),Bi _ _ (show 2*p+1<x.length by omega)];simp only[aa];rw[aN,show((2*p:Nat):Int)+2=2*((p:Int)+1)by omega];rfl
  ·intro k;show dD n (k+1) _=_;rw[lN,ag,if_neg (by simp;omega),show 2*(x.length/2)=x.length by omega,Fx]
theorem anb{n:Nat}{x cos sin:List Int}{size:Int}(hx:bh x)(t:bh cos)(d:bh sin)(w:size≤9223372036854775807)(H:x.length≤1000000000)(I:Hn0 n):yY n (x,size,cos,sin)=some (FB x size cos sin):=by
 rw[aad,SE];rw[ahb (x:=x) w ?_]
 ·rfl
 ·intro y z B D E;obtain⟨sz,rfl⟩:∃sz:Nat,size=(sz:Int):=⟨size.toNat,by omega⟩;rw[ax];have u:=alc (l:=x.length) (size:=sz) (by omega) (by omega);have c:=ba (L:=fun k i o=>jT n k (x,(sz:Int),cos,sin,-1,o,2*i,())) (len:=x.length/2) (r:=(dL (ua x cos sin sz) x.length,())) (fun p=>dL (ua x cos sin sz) (2*p)) ?_ ?_ n (by omega)
  ·rw[show 2*0=0 from rfl,eF]at c;rw[show(2:Int)*0=0 from rfl]at c;rw[c];rfl
  ·intro k p J;show jT n (k+1) _=_;rw[yj];simp only[ag,bx];have F:=auQ (sz:=sz) (p:=p) (by omega) (by omega);have b1:=hx.at (2*p);have e:=hx.at (2*p+1);have g:=t.at (kk sz p);have h:=d.at (kk sz p);have m1:=Wl b1 g;have K:=Wl e h;have M:=Wl b1 h;have N:=Wl e g;rw[lf,C5];simp only[aa];have b:(2*(p:Int)) % (sz:Int)=((2*p % sz:Nat):Int):=by simp
   have q:=Nat.mod_lt (2*p) (show 0<sz by omega);rw[b,nw (by omega) (by omega) (by omega),aN (x:=2*(p:Int)+1)];simp only[aa];rw[ub (j:=2*p) (by omega) (by omega),ub (j:=2*p+1) (by omega) (by omega)];simp only[aa];rw[ub (l:=cos) (j:=kk sz p) (by unfold kk;omega) (by omega),ub (l:=sin) (j:=kk sz p) (by unfold kk;omega) (by omega)];simp only[aa];rw[aN (x:=x.getD (2*p) 0),aN (x:=x.getD (2*p+1) 0),aN (x:=cos.getD (kk sz p) 0),aN (x:=sin.getD (kk sz p) 0),aN (x:= -1*sin.getD (kk sz p) 0),aac];rw[show(-1*sin.getD (kk sz p) 0)= -sin.getD (kk sz p) 0 by omega,Int.mul_neg,Int.mul_neg];rw[aN (x:=x.getD (2*p) 0*cos.getD (kk sz p) 0),aN (x:= -(x.getD (2*p+1) 0*sin.getD (kk sz p) 0)),aN (x:=x.getD (2*p+1) 0*cos.getD (kk sz p) 0),aN (x:= -(x.getD (2*p) 0*sin.getD (kk sz p) 0))];rw[show x.getD (2*p) 0*cos.getD (kk sz p) 0+ -(x.getD (2*p+1) 0*sin.getD (kk sz p) 0)=x.getD (2*p) 0*cos.getD (kk sz p) 0 -x.getD (2*p+1) 0*sin.getD (kk sz p) 0 by omega,
    show x.getD (2*p+1) 0*cos.getD (kk sz p) 0 - -(x.getD (2*p) 0*sin.getD (kk sz p) 0)=x.getD (2*p) 0*sin.getD (kk sz p) 0+x.getD (2*p+1) 0*cos.getD (kk sz p) 0 by omega]
   rw[aN (x:=x.getD (2*p) 0*cos.getD (kk sz p) 0 -x.getD (2*p+1) 0*sin.getD (kk sz p) 0),aN (x:=x.getD (2*p) 0*sin.getD (kk sz p) 0+x.getD (2*p+1) 0*cos.getD (kk sz p) 0)];rw[pk (by omega) (by omega) (by omega),pk (by omega) (by omega) (by omega)];simp only[aa];rw[tY,tY];simp only[aa];rw[show fk (cq (x.getD (2*p) 0*cos.getD (kk sz p) 0 -x.getD (2*p+1) 0*sin.getD (kk sz p) 0) 6).1=ua x cos sin sz (2*p)from(adW _ _ _ _ _).symm,
    show fk (cq (x.getD (2*p) 0*sin.getD (kk sz p) 0+x.getD (2*p+1) 0*cos.getD (kk sz p) 0) 6).1=ua x cos sin sz (2*p+1)from(aha _ _ _ _ _).symm]
   have a:app 1 (dL (ua x cos sin sz) (2*p)) [ua x cos sin sz (2*p),ua x cos sin sz (2*p+1)]=some (dL (ua x cos sin sz) (2*(p+1))):=by
    unfold app room;rw[if_pos ⟨by simp;omega,by simp;omega⟩,show 2*(p+1)=2*p+1+1 by omega,mH,mH];simp
   rw[a];simp only[aa];rw[aN,show 2*(p:Int)+2=2*((p:Int)+1)by omega]
  ·intro k;show jT n (k+1) _=_;rw[yj,ag,if_neg (by simp;omega),show 2*(x.length/2)=x.length by omega]
theorem awl(x:Int): -128≤ae .i8 x∧ae .i8 x≤127:=by
 simp only[ae,b9,fH,Bool.true_and,bx,ge_iff_le]
 split<;>omega
theorem arv(x:Int):ae .u64 x=x % 18446744073709551616:=by
 simp[ae,b9,fH]
def mx(l:List Int):Nat→Int
 |0=>l.getD 0 0
 |i+1=>imax (mx l i) (l.getD i 0)
theorem arw(l:List Int):mx l 1=l.getD 0 0:=by
 show imax (l.getD 0 0) (l.getD 0 0)=_;unfold imax;split<;>rfl
theorem anc{l:List Int}(h:ir l):∀i,-9223372036854775808≤mx l i∧mx l i≤9223372036854775807
 |0=>h.at 0
 |i+1=>by
  have a:=anc h i;have b:=h.at i;show -9223372036854775808≤imax _ _∧imax _ _≤9223372036854775807;unfold imax;split<;>omega
theorem arx{l:List Int}:∀i j,j<i→l.getD j 0≤mx l i
 |0,j,h=>by omega
 |i+1,j,h=>by
  show l.getD j 0≤imax (mx l i) (l.getD i 0)
  by_cases a:j=i
  ·subst a;unfold imax;split<;>omega
  ·have:=arx (l:=l) i j (by omega);unfold imax;split<;>omega
theorem auR{l:List Int}:∀i,1≤i→∃j,j<i∧mx l i=l.getD j 0
 |0,h=>by omega
 |1,_=>⟨0,by omega,arw l⟩
 |i+2,_=>by
  obtain⟨j,b,a⟩:=auR (l:=l) (i+1) (by omega);show ∃j,j<i+2∧imax (mx l (i+1)) (l.getD (i+1) 0)=l.getD j 0;unfold imax
  split
  ·exact⟨i+1,by omega,rfl⟩
  ·exact⟨j,by omega,a⟩
theorem ane{n:Nat}{l:List Int}(b:1≤l.length)(c:l.length≤1000000000)(e:Hn0 n):m4 n l=some (mx l l.length):=by
 rw[I1];simp only[ag,bx];rw[gk];simp only[aa];rw[ub (j:=0) (by simp) (by omega)];simp only[aa];have a:=ba (L:=fun k i m=>ga n k (l,m,i+1,())) (len:=l.length -1) (r:=(mx l l.length,())) (fun i=>mx l (i+1)) ?_ ?_ n (by omega)
 ·rw[show 0+1=1 from rfl,arw]at a;rw[show(0:Int)+1=1 from rfl]at a;rw[a];rfl
 ·intro k i d;show ga n (k+1) _=_;rw[rS];simp only[ag,bx];rw[lf,ub (j:=i+1) (by simp) (by omega)];simp only[aa];rw[aN];rfl
 ·intro k;show ga n (k+1) _=_;rw[rS,ag,if_neg (by simp;omega),show l.length -1+1=l.length by omega]
noncomputable def C6(m s:Int):Int:=Wk (256*(if s -m< -1099511627776 then -1099511627776 else s -m))
noncomputable def fp(l:List Int):List Int:=dL (fun i=>C6 (mx l l.length) (l.getD i 0)) l.length
theorem adX{m s:Int}:(-281474976710656≤256*(if s -m< -1099511627776 then -1099511627776 else s -m))∧(s≤m→256*(if s -m< -1099511627776 then -1099511627776 else s -m)≤0):=by
 split<;>omega
theorem ajm{n:Nat}{l:List Int}(c:ir l)(g:1≤l.length)(t:l.length≤512)(h:Hn0 n):sG n l=some (fp l,0):=by
 rw[Sp];simp only[ag,bx,beq_iff_eq];rw[gk,gk,ane g (by omega) h];simp only[aa];have a:=ba (L:=fun k i o=>jQ n k (mx l l.length,o,l,(l.length:Int),i,())) (len:=l.length) (r:=(fp l,())) (fun i=>dL (fun i=>C6 (mx l l.length) (l.getD i 0)) i) ?_ ?_ n (by omega)
 ·rw[eF]at a;rw[a];rfl
 ·intro k i b;show jQ n (k+1) _=_;rw[auv];simp only[ag,bx];have b1:=anc c l.length;have j:=c.at i;have p:=arx (l:=l) l.length i b;have q:=adX (m:=mx l l.length) (s:=l.getD i 0);rw[lf,bn b 0];simp only[aa];have e:ae .i64 (-256*ae .i64 (xr 1099511627776 (ae .u64 (ae .u64 (mx l l.length) -ae .u64 (l.getD i 0)))))=256*(if l.getD i 0 -mx l l.length< -1099511627776 then -1099511627776 else l.getD i 0 -mx l l.length):=by
   have d:ae .u64 (ae .u64 (mx l l.length) -ae .u64 (l.getD i 0))=mx l l.length -l.getD i 0:=by
    rw[arv,arv,arv];omega
   rw[d];unfold xr
   split
   ·rw[aN (x:=mx l l.length -l.getD i 0),aN,gk];omega
   ·rw[aN (x:=1099511627776),aN]
    split<;>omega
  rw[e,adP (by omega) (by omega) (by omega)];simp only[aa];rw[show Wk (256*(if l.getD i 0 -mx l l.length< -1099511627776 then -1099511627776 else l.getD i 0 -mx l l.length))=C6 (mx l l.length) (l.getD i 0)from rfl];rw[fv (fun i=>C6 (mx l l.length) (l.getD i 0)) (by unfold room;omega) (by unfold room;omega),aN];rfl
 ·intro k;show jQ n (k+1) _=_;rw[auv,ag,if_neg (by simp)];rfl
theorem adY{n:Nat}{s m:Int}(h: -9223372036854775808≤s)(g:m≤9223372036854775807)(e:s≤m):pH n (s,m)=some (if s -m< -1099511627776 then -1099511627776 else s -m):=by
 rw[MF];simp only[ag,bx]
 by_cases a:s<0
 ·rw[if_pos a]
  by_cases b:m≥0
  ·rw[if_pos b]
   by_cases c:m>1099511627776
   ·rw[if_pos c,lf]
   ·rw[if_neg c]
    by_cases d:s< -1099511627776
    ·rw[if_pos d,lf]
    ·rw[if_neg d,aN]
     split<;>rfl
  ·rw[if_neg b,aN]
   split<;>rfl
 ·rw[if_neg a,aN]
  split<;>rfl
theorem agd{n:Nat}{l:List Int}(d:ir l)(q:1≤l.length)(t:l.length≤512)(u:Hn0 n):ape n l=some (fp l,0):=by
 rw[PB];simp only[ag,bx];rw[gk,gk,ub (j:=0) (by simp) (by omega)];simp only[aa];have c:=ba (L:=fun k i m=>jd n k (l,m,i,())) (len:=l.length) (r:=(l,mx l l.length,())) (fun i=>mx l i) ?_ ?_ n (by omega)
 ·rw[show mx l 0=l.getD 0 0 from rfl]at c;rw[c];simp only[aa];have b:=ba (L:=fun k i o=>iH n k (l,mx l l.length,o,i,())) (len:=l.length) (r:=(fp l,())) (fun i=>dL (fun i=>C6 (mx l l.length) (l.getD i 0)) i) ?_ ?_ n (by omega)
  ·rw[eF]at b;rw[b];rfl
  ·intro k i a;show iH n (k+1) _=_;rw[uz];simp only[ag,bx];have b1:=anc d l.length;have g:=d.at i;have h:=arx (l:=l) l.length i a;have p:=adX (m:=mx l l.length) (s:=l.getD i 0);rw[lf,bn a 0];simp only[aa];rw[adY g.1 b1.2 h];simp only[aa];rw[aN (x:=256*_),adQ (by omega) (by omega) (by omega)];simp only[aa];rw[show Wk (256*(if l.getD i 0 -mx l l.length< -1099511627776 then -1099511627776 else l.getD i 0 -mx l l.length))=C6 (mx l l.length) (l.getD i 0)from rfl];rw[fv (fun i=>C6 (mx l l.length) (l.getD i 0)) (by unfold room;omega) (by unfold room;omega),aN];rfl
  ·intro k;show iH n (k+1) _=_;rw[uz,ag,if_neg (by simp)];rfl
 ·intro k i a;show jd n (k+1) _=_;rw[xc];simp only[ag,bx];rw[lf,bn a 0];simp only[aa];have e:(if l.getD i 0>mx l i then some (l,l.getD i 0,(i:Int),())else some (l,mx l i,(i:Int),()))=some (l,mx l (i+1),(i:Int),()):=by
   show _=some (l,imax (mx l i) (l.getD i 0),(i:Int),());unfold imax
   split<;>rfl
  rw[e];simp only[aa];rw[aN]
 ·intro k;show jd n (k+1) _=_;rw[xc,ag,if_neg (by simp)]
structure Good (w:List Int):Prop where
 len:1≤w.length∧w.length≤512
 rng:∀i,0≤w.getD i 0∧w.getD i 0≤1073741824
 pos:0<gn (fun i=>w.getD i 0) w.length
theorem aoE{g:Nat→Int}:∀(n j:Nat),(∀i,0≤g i)→j<n→g j≤gn g n
 |0,j,_,h=>by omega
 |n+1,j,a,h=>by
  have c:∀m:Nat,0≤gn g m:=by
   intro m
   induction m with
   |zero=>exact Int.le_refl _
   |succ m d=>have:=a m;simp only[gn];omega
  simp only[gn]
  by_cases b:j=n
  ·subst b;have:=c j;omega
  ·have:=aoE n j a (by omega);have:=a n;omega
theorem D3{l:List Int}(c:1≤l.length)(k:l.length≤512):Good (fp l):=by
 have b:∀i,0≤(fp l).getD i 0∧(fp l).getD i 0≤1073741824:=by
  intro i
  by_cases d:i<l.length
  ·unfold fp;rw[po _ d];exact ak4 _
  ·rw[aB,bd (by simp[fp];omega)];decide
 refine⟨by simp[fp];omega,b,?_⟩;obtain⟨j,e,h⟩:=auR (l:=l) l.length c;have a:=aoE (g:=fun i=>(fp l).getD i 0) (fp l).length j (fun i=>(b i).1) (by simp[fp];omega);have n:(fp l).getD j 0=1073741824:=by
  unfold fp;rw[po _ e,h];unfold C6;rw[Int.sub_self,gk];exact ag4
 have a:(fp l).getD j 0≤gn (fun i=>(fp l).getD i 0) (fp l).length:=a;omega
theorem Tb{w:List Int}(a:Good w)(i:Nat):0≤gn (fun i=>w.getD i 0) i∧gn (fun i=>w.getD i 0) i≤i*1073741824:=
 FA i fun j _=>a.rng j
theorem adZ{n:Nat}{w:List Int}(a:Good w)(g:Hn0 n):sH n w=some (gn (fun i=>w.getD i 0) w.length,0):=by
 rw[ZP];have c:=a.len;have b:=ba (L:=fun k i s=>l7 n k (s,w,(w.length:Int),i,())) (len:=w.length) (r:=Sum.inr (gn (fun i=>w.getD i 0) w.length,())) (fun i=>gn (fun i=>w.getD i 0) i) ?_ ?_ n (by omega)
 ·rw[show gn (fun i=>w.getD i 0) 0=0 from rfl]at b;rw[b];have h:=a.pos;simp only[aa,cI,ag,beq_iff_eq];rw[gk]
 ·intro k i d;show l7 n (k+1) _=_;rw[Cy];simp only[ag,bx];have b1:=a.rng i;have e:=Tb a i;rw[lf,bn d 0];simp only[aa];rw[gk,gk,aN,aN];rfl
 ·intro k;show l7 n (k+1) _=_;rw[Cy,ag,if_neg (by simp)]
theorem ad0{n:Nat}{w:List Int}(a:Good w)(h:Hn0 n):tf n w=some (gn (fun i=>w.getD i 0) w.length,true):=by
 rw[aaf];have c:=a.len;have b:=ba (L:=fun k i s=>mj n k (w,s,i,())) (len:=w.length) (r:=Sum.inr (gn (fun i=>w.getD i 0) w.length,())) (fun i=>gn (fun i=>w.getD i 0) i) ?_ ?_ n (by omega)
 ·rw[show gn (fun i=>w.getD i 0) 0=0 from rfl]at b;rw[b];have e:=a.pos;simp only[aa,cI];rw[show decide (gn (fun i=>w.getD i 0) w.length>0)=true by simpa using e]
 ·intro k i d;show mj n (k+1) _=_;rw[CL];simp only[ag,bx];have b1:=a.rng i;have g:=Tb a i;rw[lf,bn d 0];simp only[aa];rw[gk,gk,aN,aN];rfl
 ·intro k;show mj n (k+1) _=_;rw[CL,ag,if_neg (by simp)]
def yt(w v:List Int)(i:Nat):Int:=gn (fun i=>w.getD i 0*v.getD i 0) i
def C7(w v:List Int):Int:=ae .i8 ((2*yt w v w.length+gn (fun i=>w.getD i 0) w.length)/(2*gn (fun i=>w.getD i 0) w.length))
theorem ajn{w v:List Int}(d:Good w)(c:bh v)(i:Nat): -137438953472≤w.getD i 0*v.getD i 0∧w.getD i 0*v.getD i 0≤137438953472:=by
 have b1:=d.rng i;have e:=c.at i;have:=ajl (a:=w.getD i 0) (b:=v.getD i 0) (m:=1073741824) (k:=128) (by omega) (by omega);omega
theorem Tc{w v:List Int}(b:Good w)(a:bh v)(i:Nat): -(i*137438953472)≤yt w v i∧yt w v i≤i*137438953472:=
 adR (by omega) (fun i=>ajn b a i) i
theorem apA{n:Nat}{w v:List Int}(a:Good w)(b:bh v)(l:w.length=v.length)(g:Hn0 n):B2 n (w,v)=some (C7 w v,0):=by
 rw[acV];have d:=a.len;have o:=a.pos;have q:=Tb a w.length;simp only[ag,bx,bne_iff_ne,ne_eq];rw[gk,gk,adZ a g];simp only[aa];rw[if_neg (by simp)];have c:=ba (L:=fun k i s=>nY n k (v,gn (fun i=>w.getD i 0) w.length,s,w,(w.length:Int),i,())) (len:=w.length) (r:=(gn (fun i=>w.getD i 0) w.length,yt w v w.length,())) (fun i=>yt w v i) ?_ ?_ n (by omega)
 ·rw[show yt w v 0=0 from rfl]at c;rw[c];have p:=Tc a b w.length;simp only[aa];rw[aN (x:=2*yt w v w.length),aN (x:=2*yt w v w.length+_),aN (x:=2*gn (fun i=>w.getD i 0) w.length),C2 (by omega) (by omega) (by omega) (by omega)];rfl
 ·intro k i e;show nY n (k+1) _=_;rw[Fg];simp only[ag,bx];have b1:=ajn a b i;have h:=Tc a b i;have j:=b.at i;rw[lf,bn e 0,bn (show i<v.length by omega) 0];simp only[aa];rw[aN (x:=v.getD i 0),aN (x:=w.getD i 0*v.getD i 0),aN,aN];rfl
 ·intro k;show nY n (k+1) _=_;rw[Fg,ag,if_neg (by simp)]
theorem anf{n:Nat}{w v:List Int}(a:Good w)(b:bh v)(l:w.length=v.length)(g:Hn0 n):y3 n (w,v)=some (C7 w v,0):=by
 rw[aag];have d:=a.len;have o:=a.pos;have q:=Tb a w.length;simp only[ag,bx,bne_iff_ne,ne_eq];rw[gk,gk,ad0 a g];simp only[aa];rw[if_neg (by simp)];have c:=ba (L:=fun k i s=>ml n k (w,v,gn (fun i=>w.getD i 0) w.length,s,i,())) (len:=w.length) (r:=(gn (fun i=>w.getD i 0) w.length,yt w v w.length,())) (fun i=>yt w v i) ?_ ?_ n (by omega)
 ·rw[show yt w v 0=0 from rfl]at c;rw[c];have p:=Tc a b w.length;simp only[aa];rw[aN (x:=2*yt w v w.length),aN (x:=2*yt w v w.length+_),aN (x:=2*gn (fun i=>w.getD i 0) w.length),C3 (by omega) (by omega) (by omega) (by omega)];rfl
 ·intro k i e;show ml n (k+1) _=_;rw[CM];simp only[ag,bx];have b1:=ajn a b i;have h:=Tc a b i;have j:=b.at i;rw[lf,bn e 0,bn (show i<v.length by omega) 0];simp only[aa];rw[aN (x:=v.getD i 0),aN (x:=w.getD i 0*v.getD i 0),aN,aN];rfl
 ·intro k;show ml n (k+1) _=_;rw[CM,ag,if_neg (by simp)]
structure Rows (rows:List (List Int)) (m:Nat):Prop where
 len:1≤rows.length∧rows.length≤512
 row:∀i,i<rows.length→(rows.getD i []).length=m
 all:∀i,bh (rows.getD i [])
def PO(a:List (List Int))(c:Nat):List Int:=dL (fun i=>(a.getD i []).getD c 0) a.length
def PP(w:List Int)(a:List (List Int))(m:Nat):List Int:=dL (fun c=>C7 w (PO a c)) m
theorem ald{a:List (List Int)}{m c:Nat}(h:Rows a m):bh (PO a c):=by
 intro x b;obtain⟨i,d,rfl⟩:=iO b;exact(h.all i).at c
theorem ang{n:Nat}{w:List Int}{a:List (List Int)}{m:Nat}(e:Good w)(d:Rows a m)(u:w.length=a.length)(hm:m≤1000000)(p:Hn0 n):yJ n (w,a)=some (PP w a m,0):=by
 rw[ZQ];have l:=e.len;simp only[ag,bx,bne_iff_ne,ne_eq];rw[gk,gk];have g:idx a (0:Int)=some (a.getD 0 []):=by rw[show(0:Int)=((0:Nat):Int)from rfl,bn (by omega) []]
 have q:=ba (L:=fun k i (_:Unit)=>l9 n k (w,a,a,(a.length:Int),i,())) (len:=a.length) (r:=Sum.inr (w,a,())) (fun _=>()) ?_ ?_ n (by omega)
 ·rw[q];simp only[aa,cI];rw[adZ e p];simp only[aa];rw[if_neg (by simp),g];simp only[aa];rw[d.row 0 (by omega)];have h:=ba (L:=fun k i o=>kF n k (w,a,o,(m:Int),i,())) (len:=m) (r:=(PP w a m,())) (fun i=>dL (fun c=>C7 w (PO a c)) i) ?_ ?_ n (by omega)
  ·rw[eF]at h;rw[h];rfl
  ·intro k c t;show kF n (k+1) _=_;rw[As];simp only[ag,bx];rw[lf];have j:=ba (L:=fun k i o=>kG n k (w,a,dL (fun c=>C7 w (PO a c)) c,(c:Int),o,(m:Int),(c:Int),a,(a.length:Int),i,())) (len:=a.length) (r:=(w,a,dL (fun c=>C7 w (PO a c)) c,PO a c,(m:Int),(c:Int),())) (fun i=>dL (fun i=>(a.getD i []).getD c 0) i) ?_ ?_ n (by omega)
   ·rw[eF]at j;rw[j];simp only[aa];rw[apA e (ald d) (by simp[PO];omega) p];simp only[aa];rw[fv (fun c=>C7 w (PO a c)) (by unfold room;omega) (by unfold room;omega),aN];rfl
   ·intro k i b;show kG n (k+1) _=_;rw[Au];simp only[ag,bx];rw[lf,bn b []];simp only[aa];rw[bn (show c<(a.getD i []).length by rw[d.row i b];exact t) 0];simp only[aa];rw[fv (fun i=>(a.getD i []).getD c 0) (by unfold room;omega) (by unfold room;omega),aN];rfl
   ·intro k;show kG n (k+1) _=_;rw[Au,ag,if_neg (by simp)];rfl
  ·intro k;show kF n (k+1) _=_;rw[As,ag,if_neg (by simp)];rfl
 ·intro k i b;show l9 n (k+1) _=_;rw[Cz];simp only[ag,bx,bne_iff_ne,ne_eq];rw[lf,bn b [],g];simp only[aa];rw[d.row i b,d.row 0 (by omega),if_neg (by simp),aN]
 ·intro k;show l9 n (k+1) _=_;rw[Cz,ag,if_neg (by simp)]
theorem ale{n:Nat}{w:List Int}{a:List (List Int)}{m:Nat}(g:Good w)(b:Rows a m)(u:w.length=a.length)(hm:m≤1000000)(p:Hn0 n):we n (w,a)=some (PP w a m,0):=by
 rw[V6];have l:=g.len;simp only[ag,bx,bne_iff_ne,ne_eq];rw[gk,gk];have e:idx a (0:Int)=some (a.getD 0 []):=by rw[show(0:Int)=((0:Nat):Int)from rfl,bn (by omega) []]
 have q:=ba (L:=fun k i (_:Unit)=>kL n k (w,a,i,())) (len:=a.length) (r:=Sum.inr (w,a,())) (fun _=>()) ?_ ?_ n (by omega)
 ·rw[q];simp only[aa,cI];rw[ad0 g p];simp only[aa];rw[if_neg (by simp)];have h:=ba (L:=fun k i o=>jV n k (w,a,o,i,())) (len:=m) (r:=(PP w a m,())) (fun i=>dL (fun c=>C7 w (PO a c)) i) ?_ ?_ n (by omega)
  ·rw[eF]at h;rw[h];rfl
  ·intro k c t;show jV n (k+1) _=_;rw[yl,e];simp only[ag,bx,aa];rw[b.row 0 (by omega),lf];have j:=ba (L:=fun k i o=>jW n k (w,a,dL (fun c=>C7 w (PO a c)) c,(c:Int),o,i,())) (len:=a.length) (r:=(w,a,dL (fun c=>C7 w (PO a c)) c,(c:Int),PO a c,())) (fun i=>dL (fun i=>(a.getD i []).getD c 0) i) ?_ ?_ n (by omega)
   ·rw[eF]at j;rw[j];simp only[aa];rw[anf g (ald b) (by simp[PO];omega) p];simp only[aa];rw[fv (fun c=>C7 w (PO a c)) (by unfold room;omega) (by unfold room;omega),aN];rfl
   ·intro k i d;show jW n (k+1) _=_;rw[ym];simp only[ag,bx];rw[lf,bn d []];simp only[aa];rw[bn (show c<(a.getD i []).length by rw[b.row i d];exact t) 0];simp only[aa];rw[fv (fun i=>(a.getD i []).getD c 0) (by unfold room;omega) (by unfold room;omega),aN];rfl
   ·intro k;show jW n (k+1) _=_;rw[ym,ag,if_neg (by simp)];rfl
  ·intro k;show jV n (k+1) _=_;rw[yl,e];simp only[aa];rw[b.row 0 (by omega),ag,if_neg (by simp)];rfl
 ·intro k i d;show kL n (k+1) _=_;rw[AX];simp only[ag,bx,bne_iff_ne,ne_eq];rw[lf,bn d [],e];simp only[aa];rw[b.row i d,b.row 0 (by omega),if_neg (by simp),aN]
 ·intro k;show kL n (k+1) _=_;rw[AX,ag,if_neg (by simp)]
end Go.Am.Pu
