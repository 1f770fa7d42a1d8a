import Derived.Test.YtllhngpojglipaaGreatDoorA1
import Derived.Test.YtllhngpojglipaaGreatDoorE1
import Derived.Test.YtllhngpojglipaaGreatDoorE2
import Derived.Test.YtllhngpojglipaaGreatDoorE3
import Derived.Test.YtllhngpojglipaaGreatDoorE4
import Derived.Test.YtllhngpojglipaaGreatDoorE5
import Derived.Test.YtllhngpojglipaaGreatDoorE6
import Derived.Test.YtllhngpojglipaaGreatDoorE7
import Derived.Test.YtllhngpojglipaaGreatDoorD3
import Derived.KernelRfl
set_option linter.unusedVariables false
set_option linter.unusedSimpArgs false
open Bool renaming false_eq_true→cp,not_eq_true'→aW
open Int renaming ediv_nonneg→fv,emod_lt_of_pos→dD,emod_nonneg→fw,mul_ediv_add_emod→dU,mul_le_mul_of_nonneg_left→dF,mul_le_mul_of_nonneg_right→ci,mul_le_mul→dR,mul_nonneg→dq,pow_succ→dP,tdiv_eq_ediv_of_nonneg→aK
open Go.IntKind renaming bits→b9,i64→bw,signed→fW,wrap→ap
open List renaming getD_eq_getElem?_getD→aG,getElem?_append_right→bh,getElem?_cons_zero→eY,getElem?_eq_none→bx,getElem_mem→ak,mem_of_mem_take→dy,replicate_succ→cM,replicate→ao
open Option renaming bind_some→aa
namespace Go.Am.Pu
open Go Go.Am
theorem bF{p:Prop}[Decidable p]:(decide p=true)=p:=decide_eq_true_eq
theorem gG{c:Prop}{i:Decidable c}{R:Type}{x y:R}(h:¬ c:=by omega):ite c x y=y:=if_neg h
theorem lK{c:Prop}{i:Decidable c}{R:Type}{x y:R}(h:c:=by omega):ite c x y=x:=if_pos h
theorem iY(k:Nat)(h:0<k:=by omega):∃j,k=j+1:=⟨k -1,by omega⟩
theorem aN{x:Int}(h1: -9223372036854775808≤x:=by omega)(h2:x≤9223372036854775807:=by omega):ap .i64 x=x:=by
 simp only[ap,b9,fW,Bool.true_and,decide_eq_true_eq,ge_iff_le]
 split<;>omega
theorem w8{x:Int}(h1: -128≤x)(h2:x≤127):ap .i8 x=x:=by
 simp only[ap,b9,fW,Bool.true_and,bF,ge_iff_le]
 split<;>omega
theorem af{R:Type}(b:Bool)(x y:Option R):av b x y=if b=true then x else y:=by cases b<;>rfl
theorem sS{p:Prop}[Decidable p]{R:Type}{x y:Option R}(h:¬ p:=by omega):av (decide p) x y=y:=by rw[af,if_neg (by simpa using h)]
theorem jK{p:Prop}[Decidable p]{R:Type}{x y:Option R}(h:p:=by omega):av (decide p) x y=x:=by rw[af,if_pos (by simpa using h)]
theorem jQ{x d:Int}(hd:1≤d):(0≤x→0≤x/d∧x/d≤x)∧(x<0→x≤x/d∧x/d<0):=by
 refine⟨fun h=>⟨fv h (by omega),Int.ediv_le_self _ h⟩,fun h=>⟨?_,Int.ediv_neg_of_neg_of_pos h (by omega)⟩⟩;refine Int.le_ediv_of_mul_le (by omega) ?_;have:=Int.mul_le_mul_of_nonpos_left (show x≤0 by omega) hd;omega
theorem arn{x d:Int}(hd:1≤d):(x.tmod d<0→x/d=x.tdiv d -1∧x % d=x.tmod d+d)∧(0≤x.tmod d→x/d=x.tdiv d∧x % d=x.tmod d):=by
 have h1:=Int.mul_tdiv_add_tmod x d;have h2:x.tmod d<d:=Int.tmod_lt_of_pos x (by omega);have h3: -d<x.tmod d:=by
  have:=Int.tmod_lt_of_pos (-x) (show 0<d by omega);rw[Int.neg_tmod]at this;omega
 refine⟨fun h=> ?_,fun h=> ?_⟩
 ·refine(Int.ediv_emod_unique (by omega)).2 ⟨?_,by omega,by omega⟩;rw[Int.mul_sub];omega
 ·exact(Int.ediv_emod_unique (by omega)).2 ⟨by omega,h,h2⟩
theorem zU{a b:Int}(hb:b≠0)(h1: -9223372036854775808≤a.tdiv b)(h2:a.tdiv b≤9223372036854775807):qt .i64 a b=some (a.tdiv b):=by
 unfold qt;rw[if_neg hb,aN h1 h2]
theorem lu{a b:Int}(hb:b≠0:=by omega):rm a b=some (a.tmod b):=by unfold rm;rw[if_neg hb]
theorem aeG{x d:Int}(hd:1≤d):(0≤x→0≤x.tdiv d∧x.tdiv d≤x)∧(x≤0→x≤x.tdiv d∧x.tdiv d≤0):=by
 refine⟨fun h=> ?_,fun h=> ?_⟩
 ·rw[aK h];exact(jQ hd).1 h
 ·have:=(jQ (x:= -x) hd).1 (by omega);rw[←aK (show 0≤-x by omega),Int.neg_tdiv]at this;omega
theorem bj{α:Type}{l:List α}{i:Nat}(h:i<l.length):idx l (i:Int)=some l[i]:=by
 unfold idx;rw[lK];simp[h]
theorem ej{i n:Nat}(h:i<n:=by omega):ck (i:Int) n=some i:=by
 unfold ck;rw[if_pos ⟨by omega,by omega⟩];simp
theorem aDM(q:Int):sU .and .i64 q 1=q % 2:=by
 unfold sU;have h:(BitVec.ofInt (b9 .i64) q &&& BitVec.ofInt (b9 .i64) 1).toNat=(q % 2).toNat:=by
  show(BitVec.ofInt 64 q &&& BitVec.ofInt 64 1).toNat=_;rw[BitVec.toNat_and];show(BitVec.ofInt 64 q).toNat &&& 1=_;rw[Nat.and_one_is_mod,BitVec.toNat_ofInt];omega
 show ap .i64 (((BitVec.ofInt (b9 .i64) q &&& BitVec.ofInt (b9 .i64) 1).toNat:Nat):Int)=_;rw[h];rw[aN];omega
def vl(x d:Int):Int:=if x % d>d -x % d∨(x % d=d -x % d∧(x/d) % 2=1)then x/d+1 else x/d
theorem aeH{x d:Int}(hx1: -9223372036854775808≤x)(hx2:x≤9223372036854775807)(hd:1≤d)(hd2:d≤9223372036854775807):
  (((qt bw x d)).bind fun v1=>
   ((rm x d)).bind fun v2=>
   (av (decide (v2<(0:Int)))
    (some ((ap bw (v1 -(1:Int))),((ap bw (v2+d)),())))
    (some (v1,(v2,())))).bind fun v3=>
   some (v3.1,(v3.2.1,(0:Int))))=some (x/d,x % d,0):=by
 have hq:=aeG (x:=x) hd;have he:=jQ (x:=x) hd;have hm:=arn (x:=x) hd;have h0:=fw x (show d≠0 by omega);have h1:=dD x (show 0<d by omega);have Nt: -9223372036854775808≤x.tdiv d∧x.tdiv d≤9223372036854775807:=by omega
 rw[zU (by omega) Nt.1 Nt.2,lu];simp only[aa,af,bF]
 split
 ·rename_i h;obtain⟨e1,e2⟩:=hm.1 h;rw[←e1,←e2,aN,aN];rfl
 ·rename_i h;obtain⟨e1,e2⟩:=hm.2 (by omega);rw[←e1,←e2];rfl
theorem DM{n:Nat}{x d:Int}(hx1: -9223372036854775808≤x)(hx2:x≤9223372036854775807)(hd:1≤d)(hd2:d≤9223372036854775807):lS n (x,d)=some (x/d,x % d,0):=by
 rw[Wd,af,if_neg (by simp;omega)];exact aeH hx1 hx2 hd hd2
theorem DN{n:Nat}{x d:Int}(hx1: -9223372036854775808≤x)(hx2:x≤9223372036854775807)(hd:1≤d)(hd2:d≤9223372036854775807):lR n (x,d)=some (x/d,x % d,0):=by
 rw[V4,af,if_neg (by simp;omega)];exact aeH hx1 hx2 hd hd2
theorem aky{x d:Int}(hx1: -9223372036854775808≤x)(hx2:x≤9223372036854775807)(hd:1≤d)(h:x % d≥d -x % d): -9223372036854775808≤x/d+1∧x/d+1≤9223372036854775807:=by
 have he:=jQ (x:=x) hd;have h1:=dD x (show 0<d by omega)
 by_cases h2:d=1
 ·subst h2;omega
 ·have:=(jQ (x:=x) hd);have hx:=dU x d
  by_cases hx0:0≤x
  ·have h3:=(he.1 hx0).1;have h4:2*(x/d)≤d*(x/d):=ci (by omega) h3;omega
  ·omega
theorem aoI{n:Nat}{x d:Int}(hx1: -9223372036854775808≤x)(hx2:x≤9223372036854775807)(hd:1≤d)(hd2:d≤9223372036854775807):zh n (x,d)=some (vl x d,0):=by
 have h0:=fw x (show d≠0 by omega);have h1:=dD x (show 0<d by omega);have hu:=aky hx1 hx2 hd;rw[aam,DM hx1 hx2 hd hd2];simp only[aa,af,aDM,bF,beq_iff_eq,bne_self_eq_false,cp,if_false];rw[aN (x:=d -x % d)];unfold vl
 split
 ·rename_i h;rw[aN,if_pos (.inl h)]
 ·split
  ·rename_i h
   split
   ·rename_i h3;rw[aN,if_pos (.inr ⟨h,h3⟩)];rfl
   ·rename_i h3;rw[gG];rfl
  ·rw[gG]
theorem aBp(q:Int):¬ q.tmod 2=0↔q % 2=1:=by
 by_cases h:0≤q
 ·rw[Int.tmod_eq_emod_of_nonneg h];omega
 ·have h1:=Int.tmod_eq_emod_of_nonneg (a:= -q) (b:=2) (by omega);rw[Int.neg_tmod]at h1;have h2:q.tmod 2= -((-q) % 2):=by rw[←h1];exact(Int.neg_neg _).symm
  rw[h2];omega
theorem aoJ{n:Nat}{x d:Int}(hx1: -9223372036854775808≤x)(hx2:x≤9223372036854775807)(hd:1≤d)(hd2:d≤9223372036854775807):zf n (x,d)=some (vl x d,0):=by
 have h0:=fw x (show d≠0 by omega);have h1:=dD x (show 0<d by omega);have hu:=aky hx1 hx2 hd;rw[aah,DN hx1 hx2 hd hd2];simp only[aa,af,bF,beq_iff_eq,bne_self_eq_false,cp,if_false];rw[aN (x:=d -x % d),lu];have htm:=aBp (x/d);simp only[aa,bne_iff_ne,ne_eq];unfold vl
 split
 ·rename_i h;rw[aN,if_pos (.inl h)]
 ·split
  ·rename_i h
   split
   ·rename_i h3;rw[aN,if_pos (.inr ⟨h,htm.1 h3⟩)];rfl
   ·rename_i h3;have h4:¬ (x/d) % 2=1:=fun h=>h3 (htm.2 h);rw[gG];rfl
  ·rw[gG]
def cq(x s:Int):Int×Int:=if s<0∨s>62 then(0,20)else(vl x (2^s.toNat),0)
theorem rV{s:Nat}(h:s≤62):(1:Int)≤2^s∧(2:Int)^s≤4611686018427387904:=by
 have hp:(0:Nat)<2^s:=Nat.two_pow_pos s;refine⟨?_,?_⟩
 ·have h2:((1:Nat):Int)≤((2^s:Nat):Int):=by exact_mod_cast hp
  simpa using h2
 have:(2:Nat)^s≤2^62:=Nat.pow_le_pow_right (by omega) h;have h2:((2^s:Nat):Int)≤((2^62:Nat):Int):=by exact_mod_cast this
 simpa using h2
theorem nA{n:Nat}{x s:Int}(hx1: -9223372036854775808≤x)(hx2:x≤9223372036854775807):gT n (x,s)=some (cq x s):=by
 rw[We];simp only[af,bF];unfold cq
 split
 ·rw[lK]
 ·split
  ·rw[lK]
  ·rw[gG];have hp:=rV (s:=s.toNat) (by omega);have hs:qG .i64 1 s=some (2^s.toNat):=by
    unfold qG;rw[gG];have:min s.toNat (b9 .i64)=s.toNat:=by show min s.toNat 64=_;omega
    rw[this,Int.one_mul,aN]
   rw[hs];simp only[aa];rw[aoI hx1 hx2 hp.1 (by omega)];rfl
theorem Gl{n:Nat}{x s:Int}(hs:s≤62):∀(k i:Nat),(i:Int)≤s→s -i<k→ri n k (x,s,2^i,(i:Int),())=some (x,2^s.toNat,())
 |0,i,h1,h2=>by omega
 |k+1,i,h1,h2=>by
  rw[Qc];simp only[af,bF];have hp:=rV (s:=i) (by omega)
  split
  ·have hp2:=rV (s:=i+1) (by omega);have e:(2:Int)^i*2=2^(i+1):=by rw[dP]
   rw[aN (x:=(i:Int)+1),e,aN];exact Gl hs k (i+1) (by omega) (by omega)
  ·have:i=s.toNat:=by omega
   rw[this]
theorem pU{n:Nat}(hn:100≤n){x s:Int}(hx1: -9223372036854775808≤x)(hx2:x≤9223372036854775807):gS n (x,s)=some (cq x s):=by
 rw[V5];simp only[af,bF];unfold cq
 split
 ·rw[lK]
 ·split
  ·rw[lK]
  ·rw[gG];have hp:=rV (s:=s.toNat) (by omega);have hl:=Gl (n:=n) (x:=x) (s:=s) (by omega) n 0 (by omega) (by omega);have e:(2:Int)^0=1:=rfl;rw[e]at hl;rw[show((0:Nat):Int)=0 from rfl]at hl;rw[hl];simp only[aa];rw[aoJ hx1 hx2 hp.1 (by omega)];rfl
def fF(x:Int):Int:=if x< -127 then -127 else if x>127 then 127 else x
theorem pV(x:Int): -127≤fF x∧fF x≤127:=by
 unfold fF
 split
 ·omega
 ·split<;>omega
theorem uH{n:Nat}{x:Int}:kr n x=some (fF x):=by
 have h:=pV x;rw[Tl,Wj];simp only[af,bF];unfold fF at h ⊢
 split
 ·rfl
 ·split
  ·rfl
  ·rename_i h1 h2;show some (ap .i8 x)=_;rw[w8 (by omega) (by omega)]
theorem uI{n:Nat}{x:Int}:jb n x=some (fF x):=by
 have h:=pV x;rw[Tb,V6];simp only[af,bF];unfold fF at h ⊢
 split
 ·rfl
 ·split
  ·rfl
  ·rename_i h1 h2;show some (ap .i8 x)=_;rw[w8 (by omega) (by omega)]
def akz(a b:Int):Int×Bool:=if -9223372036854775808≤a+b∧a+b≤9223372036854775807 then(a+b,true)else(0,false)
theorem ayU{x:Int}(h1:9223372036854775807<x)(h2:x≤18446744073709551614):ap .i64 x=x -18446744073709551616:=by
 simp only[ap,b9,fW,Bool.true_and,bF,ge_iff_le]
 split<;>omega
theorem ayV{x:Int}(h1:x< -9223372036854775808)(h2: -18446744073709551616≤x):ap .i64 x=x+18446744073709551616:=by
 simp only[ap,b9,fW,Bool.true_and,bF,ge_iff_le]
 split<;>omega
theorem aro{n:Nat}{a b:Int}(ha1: -9223372036854775808≤a)(ha2:a≤9223372036854775807)(hb1: -9223372036854775808≤b)(J0:b≤9223372036854775807):CP n (a,b)=some (akz a b):=by
 rw[adR];unfold akz
 by_cases hi:9223372036854775807<a+b
 ·rw[ayU hi (by omega),gG];have h1:decide (a<0)=false:=by simp;omega
  have h2:decide (b<0)=false:=by simp;omega
  have h3:decide (a+b -18446744073709551616<0)=true:=by simp;omega
  rw[h1,h2,h3];rfl
 ·by_cases lo:a+b< -9223372036854775808
  ·rw[ayV lo (by omega),gG];have h1:decide (a<0)=true:=by simp;omega
   have h2:decide (b<0)=true:=by simp;omega
   have h3:decide (a+b+18446744073709551616<0)=false:=by simp;omega
   rw[h1,h2,h3];rfl
  ·rw[aN,lK];simp only[af,beq_iff_eq,decide_eq_decide,aW]
   split
   ·split
    ·rename_i h1 h2;simp only[beq_eq_false_iff_ne,ne_eq,decide_eq_decide]at h2;omega
    ·rfl
   ·rfl
theorem arp{n:Nat}{a b:Int}(ha1: -9223372036854775808≤a)(ha2:a≤9223372036854775807)(hb1: -9223372036854775808≤b)(J0:b≤9223372036854775807):C3 n (a,b)=some (akz a b):=by
 rw[ad8];unfold akz;simp only[af,bF]
 split
 ·rw[aN (x:=9223372036854775807 -b),if_neg (show ¬ b<0 by omega)]
  split
  ·rw[gG]
  ·rw[lK,aN]
 ·split
  ·rw[aN (x:= -9223372036854775808 -b)]
   split
   ·rw[gG]
   ·rw[lK,aN]
  ·rw[lK,aN]
def Nu(t:Int):Int:=241400000+84941200*t/65536
def Nv(t:Int):Int:=747400624+Nu t*t/65536
def aeI(t:Int):Int:=1073741824+Nv t*t/65536
def atq(x:Int):Int:=if x5 x 0/65536≤-31 then 0 else aeI (x5 x 0 % 65536)/2^(-(x5 x 0/65536)).toNat
theorem atr:∃f:Int→Int,∀x,f x=atq x:=⟨_,fun _=>rfl⟩
noncomputable def W7:Int→Int:=Classical.choose atr
theorem abP(x:Int):W7 x=atq x:=Classical.choose_spec atr x
theorem ats{a t m:Int}(ha:0≤a)(ha2:a≤m)(ht:0≤t)(ht2:t<65536):0≤a*t∧a*t≤m*65535:=by
 have h1:=dq ha ht;have h2:a*t≤m*t:=ci ha2 ht;have h3:m*t≤m*65535:=dF (by omega) (by omega);omega
theorem akA{t:Int}(ht:0≤t)(ht2:t<65536):(0≤84941200*t∧84941200*t≤84941200*65535)∧(0≤Nu t∧Nu t≤326341200)∧(0≤Nu t*t∧Nu t*t≤326341200*65535)∧(0≤Nv t∧Nv t≤1073741824)∧(0≤Nv t*t∧Nv t*t≤1073741824*65535)∧(1073741824≤aeI t∧aeI t≤2147483648):=by
 have h1:=ats (a:=84941200) (m:=84941200) (by omega) (by omega) ht ht2;have hA:0≤Nu t∧Nu t≤326341200:=by unfold Nu;omega
 have h2:=ats hA.1 hA.2 ht ht2;have hB:0≤Nv t∧Nv t≤1073741824:=by unfold Nv;omega
 have h3:=ats hB.1 hB.2 ht ht2;have hC:1073741824≤aeI t∧aeI t≤2147483648:=by unfold aeI;omega
 exact⟨h1,hA,h2,hB,h3,hC⟩
theorem aib{a:Int}(h:0≤a)(h2:a≤9223372036854775807):qt .i64 a 65536=some (a/65536):=by
 rw[zU (by omega) (by rw[aK h];omega) (by rw[aK h];omega),aK h]
theorem att(x:Int):x5 x 0≤0∧(x≤0→x5 x 0=x)∧(0<x→x5 x 0=0):=by
 unfold x5
 split<;>omega
theorem aeJ{n:Nat}(hn:100≤n){x:Int}(hx1: -9223372036854775808≤x)(hx2:x≤9223372036854775807):tE n x=some (W7 x):=by
 have hm:=att x;have hm2: -9223372036854775808≤x5 x 0:=by by_cases h:x≤0<;>omega
 rw[aav,DM hm2 (by omega) (by omega) (by omega)];simp only[aa,af,bF];rw[abP];unfold atq
 split
 ·rfl
 ·rename_i hw;obtain⟨t,ht⟩:∃t,t=x5 x 0 % 65536:=⟨_,rfl⟩;obtain⟨q,hq⟩:∃q,q=x5 x 0/65536:=⟨_,rfl⟩;rw[←ht,←hq];rw[←hq]at hw;have hq0:q≤0:=by omega
  obtain⟨h1,hA,h2,hB,h3,hC⟩:=akA (t:=t) (by omega) (by omega);obtain⟨k,rfl⟩:∃k,n=k+4:=⟨n -4,by omega⟩;have c0:ck (0:Int) 4=some 0:=rfl;have d1:ap .i64 ((0:Int)+1)=1:=aN (by decide) (by decide);have c1:ck (ap .i64 ((0:Int)+1)) 4=some 1:=by rw[d1];rfl
  have d2:ap .i64 ((1:Int)+1)=2:=aN (by decide) (by decide);have c2:ck (ap .i64 ((1:Int)+1)) 4=some 2:=by rw[d2];rfl
  have d3:ap .i64 ((2:Int)+1)=3:=aN (by decide) (by decide);have c3:ck (ap .i64 ((2:Int)+1)) 4=some 3:=by rw[d3];rfl
  have hl:tF (k+4) (k+4) (q,t,(),84941200,0,(84941200,241400000,747400624,1073741824,()),())=some (q,aeI t,()):=by
   rw[pk,c1,d1];simp only[af,aa];rw[if_pos (by decide)];simp only[List.getElem?_cons_succ,eY,aa];rw[aN,aib h1.1 (by omega)];simp only[aa];rw[aN (x:=241400000+84941200*t/65536),show(241400000:Int)+84941200*t/65536=Nu t from rfl];rw[pk,c2,d2];simp only[af,aa];rw[if_pos (by decide)];simp only[List.getElem?_cons_succ,eY,aa];rw[aN (x:=Nu t*t),aib h2.1 (by omega)];simp only[aa];rw[aN (x:=747400624+Nu t*t/65536),show(747400624:Int)+Nu t*t/65536=Nv t from rfl];rw[pk,c3,d3];simp only[af,aa];rw[if_pos (by decide)];simp only[List.getElem?_cons_succ,eY,aa];rw[aN (x:=Nv t*t),aib h3.1 (by omega)];simp only[aa];rw[aN (x:=1073741824+Nv t*t/65536),show(1073741824:Int)+Nv t*t/65536=aeI t from rfl];rw[pk];simp only[af];rw[if_neg (by decide)]
  rw[c0];simp only[aa,eY];rw[hl];simp only[aa];rw[aN];unfold vm;rw[gG,show min (0 -q).toNat (b9 .i64)=(-q).toNat by show min _ 64=_;omega];simp only[aa];have hp:=rV (s:=(-q).toNat) (by omega);rw[Int.fdiv_eq_ediv_of_nonneg _ (by omega)]
theorem Jv{n:Nat}{q:Int}:∀(k i:Nat) (c:Int),0≤c→c≤9223372036854775807→(i:Int)≤q→q≤100→q -i<k→rh n k (q,c,(i:Int),())=some (c/2^(q -i).toNat,())
 |0,i,c,_,_,h1,_,h2=>by omega
 |k+1,i,c,hc,Nf,h1,hq,h2=>by
  rw[Qb];simp only[af,bF]
  split
  ·have e:qt .i64 c 2=some (c/2):=by
    rw[zU (by omega) (by rw[aK hc];omega) (by rw[aK hc];omega),aK hc]
   rw[e];simp only[aa];rw[aN];have:=Jv (n:=n) (q:=q) k (i+1) (c/2) (by omega) (by omega) (by omega) hq (by omega);rw[show((i+1:Nat):Int)=(i:Int)+1 from rfl]at this;rw[this,Int.ediv_ediv_of_nonneg (by omega)];rw[show(q -(i:Int)).toNat=(q -((i:Int)+1)).toNat+1 by omega,dP,Int.mul_comm]
  ·rw[show(q -(i:Int)).toNat=0 by omega];simp
theorem aeK{n:Nat}(hn:200≤n){x:Int}(hx1: -9223372036854775808≤x)(hx2:x≤9223372036854775807):tn n x=some (W7 x):=by
 have hm:=att x;have hm2: -9223372036854775808≤x5 x 0:=by by_cases h:x≤0<;>omega
 rw[aag];have e0:av (decide (x>0)) (some ((0:Int),())) (some (x,()))=some (x5 x 0,()):=by
  rw[af];simp only[bF]
  split
  ·rw[hm.2.2 (by omega)]
  ·rw[hm.2.1 (by omega)]
 rw[e0];simp only[aa];rw[DN hm2 (by omega) (by omega) (by omega)];simp only[aa];rw[abP];unfold atq;obtain⟨t,ht⟩:∃t,t=x5 x 0 % 65536:=⟨_,rfl⟩;obtain⟨q,hq⟩:∃q,q=x5 x 0/65536:=⟨_,rfl⟩;rw[←ht,←hq];have hq0:q≤0:=by omega
 obtain⟨h1,hA,h2,hB,h3,hC⟩:=akA (t:=t) (by omega) (by omega);rw[aN (x:=84941200*t),aib h1.1 (by omega)];simp only[aa];rw[aN (x:=241400000+84941200*t/65536),show(241400000:Int)+84941200*t/65536=Nu t from rfl];rw[aN (x:=Nu t*t),aib h2.1 (by omega)];simp only[aa];rw[aN (x:=747400624+Nu t*t/65536),show(747400624:Int)+Nu t*t/65536=Nv t from rfl];rw[aN (x:=Nv t*t),aib h3.1 (by omega)];simp only[aa];rw[aN (x:=1073741824+Nv t*t/65536),show(1073741824:Int)+Nv t*t/65536=aeI t from rfl];rw[aN (x:=0 -q)];simp only[af,bF]
 split
 ·rw[lK]
 ·rw[gG];have:=Jv (n:=n) (q:=0 -q) n 0 (aeI t) (by omega) (by omega) (by omega) (by omega) (by omega);rw[show((0:Nat):Int)=0 from rfl]at this;rw[this];simp only[aa];rw[show(0 -q -0).toNat=(-q).toNat by omega]
theorem amx(x:Int):0≤W7 x∧W7 x≤1073741824:=by
 have hm:=att x;rw[abP];unfold atq
 split
 ·omega
 ·obtain⟨h1,hA,h2,hB,h3,hC⟩:=akA (t:=x5 x 0 % 65536) (by omega) (by omega)
  by_cases h0:x5 x 0/65536=0
  ·have:x5 x 0=0:=by omega
   rw[this];decide
  ·obtain⟨s,hs⟩:∃s,(-(x5 x 0/65536)).toNat=s+1:=⟨(-(x5 x 0/65536)).toNat -1,by omega⟩;rw[hs,dP,Int.mul_comm,←Int.ediv_ediv_of_nonneg (by omega)];have hp:=rV (s:=s) (by omega);have:=(jQ (x:=aeI (x5 x 0 % 65536)/2) hp.1).1 (by omega);omega
theorem aic:W7 0=1073741824:=by rw[abP];decide
theorem aX{β R:Type}{L:Nat→Int→β→Option R}{len:Nat}{r:R}(st:Nat→β)(hs:∀k i:Nat,i<len→L (k+1) (i:Int) (st i)=L k ((i:Int)+1) (st (i+1)))(he:∀k,L (k+1) (len:Int) (st len)=some r):
  ∀k,len<k→L k 0 (st 0)=some r:=by
 have key:∀(m k i:Nat),i+m=len→m<k→L k (i:Int) (st i)=some r:=by
  intro m
  induction m with
  |zero=>
   intro k i h1 h2;obtain⟨k,rfl⟩:=iY k;have:i=len:=by omega
   rw[this];exact he k
  |succ m ih=>
   intro k i h1 h2;obtain⟨k,rfl⟩:=iY k;rw[hs k i (by omega)];exact ih k (i+1) (by omega) (by omega)
 exact fun k hk=>key len k 0 (by omega) hk
def dX{α:Type}(g:Nat→α)(n:Nat):List α:=(List.range n).map g
theorem eS{α:Type}(g:Nat→α):dX g 0=[]:=rfl
theorem oz{α:Type}(g:Nat→α)(n:Nat):dX g (n+1)=dX g n++[g n]:=by simp[dX,List.range_succ]
@[simp] theorem B4{α:Type}(g:Nat→α)(n:Nat):(dX g n).length=n:=by simp[dX]
theorem aqi{α:Type}(g:Nat→α){n i:Nat}(h:i<n):(dX g n)[i]? =some (g i):=by simp[dX,h]
theorem i9{α:Type}{g:Nat→α}{n:Nat}{x:α}(h:x∈dX g n):∃i,i<n∧x=g i:=by
 simp only[dX,List.mem_map,List.mem_range]at h;obtain⟨i,h1,h2⟩:=h;exact⟨i,h1,h2.symm⟩
theorem pW{α:Type}(g:Nat→α){n i:Nat}(h:i<n)(d:α):(dX g n).getD i d=g i:=by
 rw[aG,aqi g h];rfl
def fill{α:Type}(g:Nat→α)(z:α)(n i:Nat):List α:=dX g i++ao (n -i) z
theorem wa{α:Type}(g:Nat→α)(z:α)(n:Nat):fill g z n 0=ao n z:=by simp[fill,dX]
theorem Gm{α:Type}(g:Nat→α)(z:α)(n:Nat):fill g z n n=dX g n:=by simp[fill]
theorem amy{α:Type}(g:Nat→α)(z:α){n i:Nat}(h:i≤n):(fill g z n i).length=n:=by simp[fill];omega
theorem B5{α:Type}(g:Nat→α)(z:α){n i:Nat}(h:i<n):(fill g z n i).set i (g i)=fill g z n (i+1):=by
 unfold fill;rw[List.set_append_right _ _ (by simp),B4,Nat.sub_self,oz];obtain⟨m,hm⟩:∃m,n -i=m+1:=⟨n -i -1,by omega⟩;rw[hm,show n -(i+1)=m by omega,cM];simp
theorem HX{α:Type}(g:Nat→α)(z:α){n i:Nat}(h:i<n):ck (i:Int) (fill g z n i).length=some i:=by
 rw[amy g z (by omega)];exact ej h
theorem B6{α:Type}(g:Nat→α)(z:α){n i:Nat}(h:i<n):(fill g z n i)[i]? =some z:=by
 unfold fill;rw[bh (by simp),B4,Nat.sub_self,List.getElem?_replicate,lK]
theorem fL{α:Type}{b:Nat}(g:Nat→α){i:Nat}(h:(i+1)*b≤room)(h2:i+1≤room):app b (dX g i) [g i]=some (dX g (i+1)):=by
 unfold app;rw[if_pos ⟨by simpa using h,by simpa using h2⟩,oz]
theorem aT{α:Type}{l:List α}{i:Nat}(h:i<l.length)(d:α):l.getD i d=l[i]:=by simp[h]
theorem bm{α:Type}{l:List α}{i:Nat}(h:i<l.length)(d:α):idx l (i:Int)=some (l.getD i d):=by rw[bj h,aT h]
theorem T8{α β:Type}(f:α→β)(l:List α)(d:α):dX (fun i=>f (l.getD i d)) l.length=l.map f:=by
 apply List.ext_getElem
 ·simp
 ·intro i h1 h2;have h3:i<l.length:=by simpa using h2
  simp[dX,h3]
def bc(l:List Int):Prop:=∀x∈l,-128≤x∧x≤127
def iI(l:List Int):Prop:=∀x∈l,-9223372036854775808≤x∧x≤9223372036854775807
theorem bc.at{l:List Int}(h:bc l)(i:Nat): -128≤l.getD i 0∧l.getD i 0≤127:=by
 by_cases hi:i<l.length
 ·rw[aT hi];exact h _ (ak hi)
 ·rw[aG,bx (by omega)];decide
theorem iI.at{l:List Int}(h:iI l)(i:Nat): -9223372036854775808≤l.getD i 0∧l.getD i 0≤9223372036854775807:=by
 by_cases hi:i<l.length
 ·rw[aT hi];exact h _ (ak hi)
 ·rw[aG,bx (by omega)];decide
theorem bc.sub{l:List Int}(h:bc l)(a b:Nat):bc ((l.drop a).take b):=fun x hx=>h x (List.mem_of_mem_drop (dy hx))
def gH(g:Nat→Int):Nat→Int
 |0=>0
 |i+1=>gH g i+g i
theorem aeL{g:Nat→Int}{m:Int}(hm:0≤m)(h:∀i,-m≤g i∧g i≤m):∀i:Nat,-(i*m)≤gH g i∧gH g i≤i*m
 |0=>by simp[gH]
 |i+1=>by
  have h1:=aeL hm h i;have h2:=h i;simp only[gH];rw[show((i+1:Nat):Int)*m=i*m+m by rw[Int.natCast_add,Int.add_mul];simp];omega
theorem W8{a b:Int}(ha: -128≤a∧a≤127)(hb: -128≤b∧b≤127): -16384≤a*b∧a*b≤16384:=by
 have h:∀a b:Int,0≤a→a≤128→0≤b→b≤128→0≤a*b∧a*b≤16384:=fun a b h1 h2 h3 h4=>by
  have:=dR h2 h4 h3 (by omega);have:=dq h1 h3;omega
 by_cases h1:0≤a
 ·by_cases h2:0≤b
  ·have:=h a b h1 (by omega) h2 (by omega);omega
  ·have:=h a (-b) h1 (by omega) (by omega) (by omega);rw[Int.mul_neg]at this;omega
 ·by_cases h2:0≤b
  ·have:=h (-a) b (by omega) (by omega) h2 (by omega);rw[Int.neg_mul]at this;omega
  ·have:=h (-a) (-b) (by omega) (by omega) (by omega) (by omega);rw[Int.neg_mul_neg]at this;omega
def yp(a b:List Int):Int:=gH (fun i=>a.getD i 0*b.getD i 0) a.length
theorem akB{a b:List Int}(ha:bc a)(hb:bc b)(i:Nat): -(i*16384)≤gH (fun i=>a.getD i 0*b.getD i 0) i∧gH (fun i=>a.getD i 0*b.getD i 0) i≤i*16384:=
 aeL (by omega) (fun i=>W8 (ha.at i) (hb.at i)) i
theorem amz{a b:List Int}(ha:bc a)(hb:bc b): -((a.length:Nat)*16384:Int)≤yp a b∧yp a b≤(a.length:Nat)*16384:=akB ha hb _
theorem aqj{n:Nat}{a b:List Int}(ha:bc a)(hb:bc b)(hl:a.length≤b.length)(hlen:a.length≤1000000000)(hn:2000000000≤n):z8 n (a,b)=some (yp a b):=by
 rw[ajE];have hL:=aX (L:=fun k i s=>sF n k (b,s,a,(a.length:Int),i,())) (len:=a.length) (r:=(yp a b,())) (fun i=>gH (fun i=>a.getD i 0*b.getD i 0) i) ?_ ?_ n (by omega)
 ·rw[show(gH (fun i=>a.getD i 0*b.getD i 0) 0)=0 from rfl]at hL;rw[hL];rfl
 ·intro k i hi;show sF n (k+1) _=_;rw[LW];simp only[af,bF];rw[lK,bm hi 0,bm (show i<b.length by omega) 0];have h1:=ha.at i;have h2:=hb.at i;have h3:=W8 h1 h2;have h4:=akB ha hb i;simp only[aa];rw[aN (x:=a.getD i 0),aN (x:=b.getD i 0),aN (x:=a.getD i 0*b.getD i 0),aN (x:=(i:Int)+1),aN];rfl
 ·intro k;show sF n (k+1) _=_;rw[LW,af,if_neg (by simp)];rfl
theorem aid{n:Nat}{a b:List Int}(ha:bc a)(hb:bc b)(hl:a.length=b.length)(hlen:a.length≤1048576)(hn:2000000000≤n):xx n (a,b)=some (yp a b,0):=by
 rw[ad7];simp only[af,bF,bne_iff_ne,ne_eq];rw[gG,gG,gG];have hL:=aX (L:=fun k i s=>oT n k (a,b,s,(a.length:Int),i,())) (len:=a.length) (r:=(yp a b,())) (fun i=>gH (fun i=>a.getD i 0*b.getD i 0) i) ?_ ?_ n (by omega)
 ·rw[show(gH (fun i=>a.getD i 0*b.getD i 0) 0)=0 from rfl]at hL;rw[hL];rfl
 ·intro k i hi;show oT n (k+1) _=_;rw[Ge];simp only[af,bF];rw[lK,bm hi 0,bm (show i<b.length by omega) 0];have h1:=ha.at i;have h2:=hb.at i;have h3:=W8 h1 h2;have h4:=akB ha hb i;simp only[aa];rw[aN (x:=a.getD i 0),aN (x:=b.getD i 0),aN (x:=a.getD i 0*b.getD i 0),aN (x:=(i:Int)+1),aN];rfl
 ·intro k;show oT n (k+1) _=_;rw[Ge,af,if_neg (by simp)];rfl
end Go.Am.Pu
