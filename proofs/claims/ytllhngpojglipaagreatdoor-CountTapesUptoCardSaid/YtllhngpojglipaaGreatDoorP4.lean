import Derived.Test.YtllhngpojglipaaGreatDoorP1
import Derived.Test.YtllhngpojglipaaGreatDoorE1
import Derived.Test.YtllhngpojglipaaGreatDoorE2
import Derived.Test.YtllhngpojglipaaGreatDoorE3
set_option linter.unusedVariables false
set_option linter.unusedSimpArgs false
open Array renaming toList→ej
open Bool renaming false_eq_true→cn,or_eq_true→aD
open Int renaming ediv_emod_unique→afu,ediv_eq_zero_of_lt→ae7,ediv_nonneg→e7,emod_add_mul_ediv→aeX,emod_lt_of_pos→dz,emod_nonneg→e9,le_of_lt→acP,mul_assoc→ae8,mul_comm→aa5,mul_ediv_add_emod→dN,mul_le_mul_of_nonneg_left→ci,mul_le_mul_of_nonneg_right→bP,mul_le_mul→dA,mul_nonneg→cp,pow_add→abe,pow_pos→ed,pow_succ→c9,tdiv_eq_ediv_of_nonneg→aK,toNat_natCast→ax
open Go.IntKind renaming bits→b9,i64→bz,signed→fH,wrap→ae
open List renaming append_assoc→bo,append_nil→cG,cons_append→ev,dropLast_concat_getLast→bL,drop_eq_getElem_cons→bi,drop_of_length_le→bA,drop_zero→dy,getElem?_eq_getElem→ai,getElem?_set_ne→dq,getElem_mem→am,length_append→ah,length_map→dc,length_replicate→aU,length_set→aO,length_singleton→bZ,length_take→aC,map_append→eu,map_congr_left→ft,map_cons→cb,mem_append_left→aS,mem_append_right→bp,mem_cons_of_mem→aG,mem_cons_self→aH,mem_of_mem_take→cS,mem_or_eq_of_mem_set→ee,replicate_succ→cH,replicate→ao,take_add_one→dK,take_length→ch,take_of_length_le→aR,take_zero→eW,toArray→aeZ
open Nat renaming le_refl→az,le_trans→ei,mul_le_mul→bD
open Option renaming bind_some→aa
namespace Go.Am.Pu
open Go Go.Am
def vz(B:Int):List Int→Int
 |[]=>0
 |d::l=>d+B*vz B l
def ij(B:Int)(l:List Int):Prop:=∀d∈l,0≤d∧d<B
def Can(B:Int)(l:List Int):Prop:=ij B l∧∀h:l≠[],l.getLast h≠0
theorem ij.nil{B:Int}:ij B []:=fun d h=>by cases h
theorem ij.cons{B d:Int}{l:List Int}(j:0≤d)(y:d<B)(h:ij B l):ij B (d::l):=by
 intro x i;rcases List.mem_cons.1 i with rfl |i
 ·exact⟨j,y⟩
 ·exact h x i
theorem ij.app{B:Int}{l m:List Int}(j:ij B l)(y:ij B m):ij B (l++m):=by
 intro x i;rcases List.mem_append.1 i with i |i
 ·exact j x i
 ·exact y x i
theorem ij.head{B d:Int}{l:List Int}(h:ij B (d::l)):0≤d∧d<B:=h d aH
theorem ij.tail{B d:Int}{l:List Int}(h:ij B (d::l)):ij B l:=fun x i=>h x (aG _ i)
theorem ij.left{B:Int}{l m:List Int}(h:ij B (l++m)):ij B l:=fun x i=>h x (aS _ i)
theorem ij.right{B:Int}{l m:List Int}(h:ij B (l++m)):ij B m:=fun x i=>h x (bp _ i)
theorem ij.at{B:Int}{l:List Int}(h:ij B l){i:Nat}(hi:i<l.length):0≤l[i]∧l[i]<B:=h _ (am hi)
theorem ij.set{B:Int}{l:List Int}(h:ij B l){i:Nat}{v:Int}(y:0≤v)(D:v<B):ij B (l.set i v):=by
 intro x j;rcases ee j with j |rfl
 ·exact h x j
 ·exact⟨y,D⟩
theorem ij.rep{B:Int}(i:0<B)(n:Nat):ij B (ao n 0):=by
 intro x j;rw[List.eq_of_mem_replicate j];exact⟨by omega,i⟩
theorem Ea{B:Int}:∀(l m:List Int),vz B (l++m)=vz B l+B^l.length*vz B m
 |[],m=>by simp[vz]
 |d::l,m=>by
  show d+B*vz B (l++m)=d+B*vz B l+B^(l.length+1)*vz B m;rw[Ea l m,c9]
  grind
theorem ajy{B:Int}(n:Nat):vz B (ao n 0)=0:=by
 induction n with
 |zero=>rfl
 |succ n a=>rw[cH];simp[vz,a]
theorem vj{B:Int}(a:0<B):∀{l:List Int},ij B l→0≤vz B l
 |[],_=>by simp[vz]
 |d::l,h=>by
  have b:=h.head;have c:=cp (show 0≤B by omega) (vj a h.tail);show 0≤d+B*vz B l;omega
theorem XU{B:Int}(a:0<B):∀{l:List Int},ij B l→vz B l<B^l.length
 |[],_=>by simp[vz]
 |d::l,h=>by
  have b:=h.head;have c:B*(vz B l+1)≤B*B^l.length:=ci (by have:=XU a h.tail;omega) (by omega);show d+B*vz B l<B^(l.length+1);rw[c9]
  grind
theorem Wr{B:Int}:∀{l:List Int} {k:Nat} {v:Int} (b:k<l.length),vz B (l.set k v)=vz B l+(v -l[k])*B^k
 |d::l,0,v,_=>by
  show v+B*vz B l=d+B*vz B l+(v -d)*B^0
  grind
 |d::l,k+1,v,b=>by
  have a:k<l.length:=by simpa using b
  show d+B*vz B (l.set k v)=d+B*vz B l+(v -l[k])*B^(k+1);rw[Wr a,c9]
  grind
theorem xj{B:Int}(a:0<B)(k:Nat):0<B^k:=ed a
theorem arH{B:Int}(a:0<B){l:List Int}(h:Can B l)(b:l≠[]):B^(l.length -1)≤vz B l:=by
 obtain⟨m,x,rfl⟩:∃m x,l=m++[x]:=⟨_,_,(bL b).symm⟩;have c:=h.2 b;simp only[List.getLast_append,List.getLast_singleton]at c;have d:0≤vz B m:=vj a h.1.left;have e:0≤x∧x<B:=h.1.right.head;rw[Ea];show B^((m++[x]).length -1)≤vz B m+B^m.length*(x+B*0);rw[ah,bZ,Nat.add_sub_cancel];have g:B^m.length*1≤B^m.length*x:=ci (by simp at c;omega) (by have:=xj a m.length;omega)
 grind
theorem alJ{B:Int}(a:0<B){l:List Int}(h:Can B l)(b:l≠[]):0<vz B l:=by
 have:=arH a h b;have:=xj a (l.length -1);omega
theorem aoJ{B:Int}(b:0<B){l:List Int}(h:Can B l):vz B l=0↔l=[]:=by
 refine⟨fun a=> ?_,fun a=>by rw[a];rfl⟩;apply Decidable.byContradiction;intro c;have:=alJ b h c;omega
theorem Can.nil{B:Int}:Can B []:=⟨ij.nil,fun h=>absurd rfl h⟩
theorem Can.tail{B d:Int}{l:List Int}(h:Can B (d::l)):Can B l:=by
 refine⟨h.1.tail,fun i=> ?_⟩;have:=h.2 (by simp);rw[List.getLast_cons i]at this;exact this
theorem ajz{B:Int}(n:1<B):∀{l m:List Int},Can B l→Can B m→vz B l=vz B m→l=m
 |[],m,_,b,h=>((aoJ (by omega) b).1 (by rw[←h];rfl)).symm
 |d::l,[],a,_,h=>(aoJ (by omega) a).1 (by rw[h];rfl)
 |d::l,e::m,a,b,h=>by
  have c:=a.1.head;have g:=b.1.head;have h:d+B*vz B l=e+B*vz B m:=h;have j:d=e:=by
   have i:(d+B*vz B l) % B=(e+B*vz B m) % B:=by rw[h]
   rw[Int.add_mul_emod_self_left,Int.add_mul_emod_self_left,Int.emod_eq_of_lt c.1 c.2,Int.emod_eq_of_lt g.1 g.2]at i;exact i
  subst j;have k:vz B l=vz B m:=by
   have:B*vz B l=B*vz B m:=by omega
   exact Int.eq_of_mul_eq_mul_left (by omega) this
  rw[ajz n a.tail b.tail k]
def xk:List Int→List Int
 |[]=>[]
 |d::l=>match xk l with
  |[]=>if d=0 then[]else[d]
  |e::m=>d::e::m
theorem Mn:∀(l:List Int),xk (l++[0])=xk l
 |[]=>rfl
 |d::l=>by
  show(match xk (l++[0])with |[]=>if d=0 then[]else[d]|e::m=>d::e::m)=_;rw[Mn l];rfl
theorem Mo{x:Int}(hx:x≠0):∀(l:List Int),xk (l++[x])=l++[x]
 |[]=>by show(if x=0 then[]else[x])=[x];rw[if_neg hx]
 |d::l=>by
  show(match xk (l++[x])with |[]=>if d=0 then[]else[d]|e::m=>d::e::m)=_;rw[Mo hx l]
  cases l<;>rfl
theorem wy{B:Int}:∀(l:List Int),vz B (xk l)=vz B l
 |[]=>rfl
 |d::l=>by
  have a:=wy (B:=B) l;show vz B (match xk l with |[]=>if d=0 then[]else[d]|e::m=>d::e::m)=d+B*vz B l;rw[←a]
  match b:xk l with
  |[]=>
   simp only
   split
   ·rename_i h;rw[h];simp[vz]
   ·rfl
  |e::m=>rfl
theorem qE{B:Int}:∀{l:List Int},ij B l→Can B (xk l)
 |[],_=>Can.nil
 |d::l,h=>by
  have a:=qE h.tail;show Can B (match xk l with |[]=>if d=0 then[]else[d]|e::m=>d::e::m)
  match c:xk l with
  |[]=>
   simp only
   split
   ·exact Can.nil
   ·rename_i b;exact⟨ij.cons h.head.1 h.head.2 ij.nil,fun _=>by simpa using b⟩
  |e::m=>
   rw[c]at a;exact⟨ij.cons h.head.1 h.head.2 a.1,fun _=>by rw[List.getLast_cons (by simp)];exact a.2 (by simp)⟩
theorem xl:∀(l:List Int),(xk l).length≤l.length
 |[]=>az _
 |d::l=>by
  have a:=xl l;show(match xk l with |[]=>if d=0 then[]else[d]|e::m=>d::e::m).length≤l.length+1
  match b:xk l with
  |[]=>simp only;split<;>simp
  |e::m=>rw[b]at a;simpa using a
theorem ajA{B:Int}{l:List Int}{i:Nat}(h:i<l.length):vz B (l.drop i)=l[i]+B*vz B (l.drop (i+1)):=by
 rw[bi h];rfl
theorem Mp{B:Int}{l:List Int}{i:Nat}(h:i<l.length):vz B (l.take (i+1))=vz B (l.take i)+B^i*l[i]:=by
 rw[dK,ai h,Option.toList_some,Ea];have:(l.take i).length=i:=by rw[aC];omega
 rw[this];show _+B^i*(l[i]+B*0)=_
 grind
theorem agh{l:List Int}{i:Nat}{v:Int}(h:i<l.length):(l.set i v).drop i=v::l.drop (i+1):=by
 rw[bi (by simpa using h)];congr 1
 ·simp
 ·rw[List.drop_set_of_lt (by omega)]
theorem Hj{B s:Int}(e:0<B)(g:0≤s):0≤s % B∧s % B<B∧0≤s/B∧s % B+B*(s/B)=s:=by
 have a:=e9 s (show B≠0 by omega);have b:=dz s e;have c:=e7 g (show 0≤B by omega);have d:=aeX s B;exact⟨a,b,c,d⟩
theorem FE{B o p q c:Int}(e:0<B)(j:0≤o∧o<B)(g:0≤p∧p<B)(a:0≤q∧q<B)(i:0≤c∧c<B):
  0≤p*q∧0≤o+p*q+c∧o+p*q+c<B*B∧0≤(o+p*q+c)/B∧(o+p*q+c)/B<B:=by
 have b:0≤p*q:=cp g.1 a.1;have h:p*q≤(B -1)*(B -1):=dA (by omega) (by omega) a.1 (by omega);have d:o+p*q+c<B*B:=by grind
 refine⟨b,by omega,d,e7 (by omega) (by omega),?_⟩;exact Int.ediv_lt_of_lt_mul e (by omega)
theorem arI:∀(l:List Int),(xk l).reverse=l.reverse.dropWhile (fun d=>d==0):=by
 intro l;have b:∀(n:Nat) (l:List Int),l.length=n→(xk l).reverse=l.reverse.dropWhile (fun d=>d==0):=by
  intro n
  induction n with
  |zero=>intro l h;rw[List.length_eq_zero_iff.1 h];rfl
  |succ n g=>
   intro l h;have e:l≠[]:=by intro c;rw[c]at h;simp at h
   obtain⟨m,x,rfl⟩:∃m x,l=m++[x]:=⟨_,_,(bL e).symm⟩
   by_cases a:x=0
   ·subst a;rw[Mn,g m (by simpa using h)];simp
   ·rw[Mo a];simp[a]
 exact b _ l rfl
def Wt(l:List Int):List UInt8:=(l.map (fun d=>UInt8.ofNat (48+d.toNat))).reverse
def jA(v:Int):Nat:=if v≤0 then 0 else Nat.log2 v.toNat+1
theorem apN{v:Int}{b:Nat}(a:2^b≤v)(c:v<2^(b+1)):jA v=b+1:=by
 have h:0<v:=by have:=xj (show(0:Int)<2 by omega) b;omega
 obtain⟨w,rfl⟩:∃w:Nat,v=(w:Int):=⟨v.toNat,by omega⟩;unfold jA;rw[gk];have d:2^b≤w:=by exact_mod_cast a
 have e:w<2^(b+1):=by exact_mod_cast c
 have g:Nat.log2 w=b:=(Nat.log2_eq_iff (by omega)).2 ⟨d,e⟩;simp[g]
theorem abc{v:Int}:v<2^jA v:=by
 unfold jA
 split
 ·simp;omega
 ·obtain⟨w,rfl⟩:∃w:Nat,v=(w:Int):=⟨v.toNat,by omega⟩;have:=(Nat.log2_eq_iff (n:=w) (k:=Nat.log2 w) (by omega)).1 rfl;rw[ax]
  exact_mod_cast this.2
theorem Hk{v:Int}{k:Nat}(h:v<2^k):jA v≤k:=by
 unfold jA
 split
 ·omega
 ·obtain⟨w,rfl⟩:∃w:Nat,v=(w:Int):=⟨v.toNat,by omega⟩;rw[ax];have a:w<2^k:=by exact_mod_cast h
  exact(Nat.log2_lt (by omega)).2 a
theorem at0{v:Int}(h:0<v):2^(jA v -1)≤v:=by
 unfold jA;rw[gk];obtain⟨w,rfl⟩:∃w:Nat,v=(w:Int):=⟨v.toNat,by omega⟩;have:=(Nat.log2_eq_iff (n:=w) (k:=Nat.log2 w) (by omega)).1 rfl;rw[ax,Nat.add_sub_cancel]
 exact_mod_cast this.1
theorem Eb{x:Int}(a:0≤x:=by omega)(b:x<18446744073709551616:=by omega):ae .u64 x=x:=by
 simp only[ae,b9,fH,Bool.false_and,cn,if_false];omega
theorem anF{x:Int}(a:0≤x:=by omega)(b:x<4294967296:=by omega):ae .u32 x=x:=by
 simp only[ae,b9,fH,Bool.false_and,cn,if_false];omega
theorem alH{x:Int}:ae .u32 x=x % 4294967296:=by
 simp only[ae,b9,fH,Bool.false_and,cn,if_false];omega
theorem wu8{x:Int}(a:0≤x:=by omega)(b:x<256:=by omega):ae .u8 x=x:=by
 simp only[ae,b9,fH,Bool.false_and,cn,if_false];omega
theorem vk{α:Type}{l:List α}{k:Nat}(h:k≤l.length:=by omega):slc l 0 (k:Int)=some (l.take k):=by
 unfold slc;rw[lf];simp
theorem alI{α:Type}{l:List α}{k:Nat}(h:k≤l.length:=by omega):slc l (k:Int) (l.length:Int)=some (l.drop k):=by
 unfold slc;rw[lf];simp
theorem fX{b:Nat}{n:Int}{m:Nat}(h:n=(m:Int):=by omega)(hm:m≤10000000000:=by omega)(a:b≤1000:=by omega):Bx b n=some m:=by
 unfold Bx;have:m*b≤10000000000*1000:=bD hm a;subst h;rw[if_pos (by simp only[ax];unfold room;omega)];simp
theorem Tp{k:IntKind}{a:Int}{s:Nat}(b:s≤k.bits):ui k a (s:Int)=some (a/2^s):=by
 unfold ui;rw[gk];have:min (s:Int).toNat k.bits=s:=by rw[ax];omega
 rw[this,Int.fdiv_eq_ediv_of_nonneg _ (acP (ed (by decide)))]
theorem aoK{a:Int}:ui .u64 a 32=some (a/4294967296):=by
 have:=Tp (k:=.u64) (a:=a) (s:=32) (by decide);simpa using this
theorem Tq{n:Nat}{o:List Int}:∀(m k:Nat) (l:List Int),l.length=m→m<k→m≤1000000000→
  B7 n k (l,(),(o,()),())=some (xk l,(),(o,()),())
 |0,k,l,b,i,g=>by
  obtain⟨k,rfl⟩:=gU k;rw[List.length_eq_zero_iff.1 b,La];rfl
 |m+1,k,l,b,i,g=>by
  obtain⟨k,rfl⟩:=gU k;obtain⟨a,x,rfl⟩:∃a x,l=a++[x]:=by
   have:l≠[]:=by intro h;rw[h]at b;simp at b
   exact⟨_,_,(bL this).symm⟩
  have c:a.length=m:=by simpa using b
  rw[La];have d:ae .i64 ((((a++[x]).length:Nat):Int) -1)=(m:Int):=by rw[b,aN];omega
  have e:idx (a++[x]) (m:Int)=some x:=by rw[bj (by omega)];simp[←c]
  rw[d,e,ag,if_pos (by rw[bx,b];omega)];simp only[aa,ag,beq_iff_eq]
  split
  ·rename_i h;subst h;rw[vk];simp only[aa];rw[show(a++[(0:Int)]).take m=a by rw[←c];simp,Mn];exact Tq m k a c (by omega) (by omega)
  ·rename_i h;rw[Mo h]
theorem Tr{n:Nat}{l:List Int}(h:l.length<n)(a:l.length≤1000000000):pB n l=some (xk l,()):=by
 rw[aiu,Tq _ n l rfl h a];rfl
theorem PW{v:Int}{s:Nat}(h:0<v/2^s):jA v=s+jA (v/2^s):=by
 obtain⟨w,e⟩:∃w,w=v/2^s:=⟨_,rfl⟩;have l:(0:Int)<2^s:=ed (by decide);rw[←e]at h ⊢;have a:=at0 h;have c:=abc (v:=w);have n:jA w≠0:=by intro g;rw[g]at c;simp at c;omega
 obtain⟨b,k⟩:∃b,jA w=b+1:=⟨jA w -1,by omega⟩;rw[k]at a c ⊢;simp only[Nat.add_sub_cancel]at a;have i:=dN v (2^s);have o:=e9 v (show(2:Int)^s≠0 by omega);have p:=dz v l;rw[←e]at i;have j:(2:Int)^s*2^b≤2^s*w:=ci a (by omega);have d:(2:Int)^s*(w+1)≤2^s*2^(b+1):=ci (by omega) (by omega);rw[←abe]at j d;rw[Int.mul_add]at d;exact apN (b:=s+b) (by omega) (by rw[show s+b+1=s+(b+1)from rfl];omega)
theorem arJ:∃T:List UInt8,(∀(n:Nat) (a0:Int),k7 n a0=(av (decide (a0≥(65536:Int)))
   (((ui IntKind.u32 a0 (16:Int))).bind fun d=>some (d,(16:Int)))
   (some (a0,(0:Int)))).bind fun b=>
  (av (decide (b.1≥(256:Int)))
   (((ui IntKind.u32 b.1 (8:Int))).bind fun e=>some (e,(ae bz (b.2+(8:Int)))))
   (some b)).bind fun c=>
  ((FQ T (ae IntKind.u8 c.1))).bind fun g=>
  some (ae bz (c.2+(ae bz g))))∧∀i:Fin 256,FQ T (i.val:Int)=some ((jA (i.val:Int):Nat):Int):=
 ⟨_,fun n a=>Lb n a,by decide+kernel⟩
theorem anG{n:Nat}{v:Int}(B:0≤v)(D:v<4294967296):k7 n v=some ((jA v:Nat):Int):=by
 obtain⟨T,l,q⟩:=arJ;have d:∀w:Int,0≤w→w<256→FQ T w=some ((jA w:Nat):Int):=by
  intro w a b;have:=q ⟨w.toNat,by omega⟩;rw[show(w.toNat:Int)=w by omega]at this;exact this
 have c:∀w:Int,w<256→jA w≤8:=fun w e=>Hk (by simpa using e);have g:ui .u32 v 16=some (v/65536):=by simpa using Tp (k:=.u32) (a:=v) (s:=16) (by decide)
 have u:∀w:Int,ui .u32 w 8=some (w/256):=fun w=>by simpa using Tp (k:=.u32) (a:=w) (s:=8) (by decide)
 have f8:∀w:Int,256≤w→jA w=8+jA (w/256):=fun w e=>by simpa using PW (v:=w) (s:=8) (by simp;omega)
 have f16:∀w:Int,65536≤w→jA w=16+jA (w/65536):=fun w e=>by simpa using PW (v:=w) (s:=16) (by simp;omega)
 have tail:∀(w a:Int),0≤w→w<65536→0≤a→a≤16→((av (decide (w≥(256:Int)))
    (((ui IntKind.u32 w (8:Int))).bind fun y=>some (y,(ae bz (a+(8:Int)))))
    (some (w,a))).bind fun i=>
  ((FQ T (ae IntKind.u8 i.1))).bind fun z=>
  some (ae bz (i.2+(ae bz z))))=some (a+((jA w:Nat):Int)):=by
  intro w a r t o p;rw[u];simp only[aa,ag,bx]
  split
  ·rename_i h;have j:=c (w/256) (by omega);simp only[aa];rw[wu8,d _ (by omega) (by omega),f8 w h];simp only[aa];rw[aN (x:=a+8),aN (x:=((jA (w/256):Nat):Int)),aN];congr 1;omega
  ·have j:=c w (by omega);simp only[aa];rw[wu8,d _ (by omega) (by omega)];simp only[aa];rw[aN (x:=((jA w:Nat):Int)),aN]
 rw[l,g,ag]
 split
 ·rename_i h;rw[bx]at h;simp only[aa];rw[tail _ _ (by omega) (by omega) (by omega) (by omega),f16 v h];congr 1
 ·rename_i h;rw[bx]at h;simp only[aa];rw[tail _ _ (by omega) (by omega) (by omega) (by omega),Int.zero_add]
theorem ajB(k:Nat):(4294967296:Int)^k=2^(32*k):=by
 rw[Int.pow_mul];rfl
theorem Ly{n:Nat}{x:List Int}(hx:Can 4294967296 x)(g:x.length≤1000000000):iX n (x,())=some ((jA (vz 4294967296 x):Nat):Int):=by
 rw[Sy];simp only[ag,beq_iff_eq]
 split
 ·rename_i h;have:x=[]:=List.length_eq_zero_iff.1 (by omega);subst this;rfl
 ·rename_i h;obtain⟨m,t,rfl⟩:∃m t,x=m++[t]:=by
   have:x≠[]:=by intro e;rw[e]at h;simp at h
   exact⟨_,_,(bL this).symm⟩
  have a:0≤t∧t<4294967296:=hx.1.right.head;have k:t≠0:=by have:=hx.2 (by simp);simpa using this
  have i:(m++[t]).length=m.length+1:=by simp
  rw[i]at g h ⊢;rw[aN (x:=((m.length+1:Nat):Int) -1)];have d:idx (m++[t]) (((m.length+1:Nat):Int) -1)=some t:=by
   rw[show((m.length+1:Nat):Int) -1=(m.length:Int)by omega,bj (by simp)];simp
  rw[d];simp only[aa];rw[anG a.1 a.2];simp only[aa];have c:vz 4294967296 (m++[t])/2^(32*m.length)=t:=by
   rw[Ea,←ajB];show(vz 4294967296 m+(4294967296:Int)^m.length*(t+4294967296*0))/(4294967296:Int)^m.length=t;rw[Int.mul_zero,Int.add_zero,Int.add_mul_ediv_left _ _ (by have:=xj (show(0:Int)<4294967296 by decide) m.length;omega),
    ae7 (vj (by decide) hx.1.left) (XU (by decide) hx.1.left)]
   omega
  have b:=PW (v:=vz 4294967296 (m++[t])) (s:=32*m.length) (by rw[c];omega);rw[c]at b;have j:jA t≤32:=Hk (by simpa using a.2);rw[b];rw[aN (x:=32*(((m.length+1:Nat):Int) -1)),aN];congr 1;omega
theorem arK{n:Nat}(a:2<n){v:Int}(b:0≤v)(c:v<18446744073709551616):∃x,Kb n v=some (x,())∧Can 4294967296 x∧vz 4294967296 x=v∧x.length≤2:=by
 rw[akN,aoK];simp only[aa];rw[alH,anF (x:=v/4294967296),Tr (by simpa using a) (by simp)];refine⟨_,rfl,qE (ij.cons (by omega) (by omega) (ij.cons (by omega) (by omega) ij.nil)),?_,xl _⟩;rw[wy];show v % 4294967296+4294967296*(v/4294967296+4294967296*0)=v;omega
theorem XV{n:Nat}{x:List Int}(hx:Can 4294967296 x)(a:x.length≤1000000000):qo n (x,())=some (if jA (vz 4294967296 x)≤65536 then((x,()),0)else(([],()),41)):=by
 rw[VF,Ly hx a];simp only[aa,ag,bx]
 split
 ·rw[gk]
 ·rw[lf]
structure Row (B:Int) (oK out:List Int) (p c:Int) (y:List Int) (i j:Nat):Prop where
 len:out.length=oK.length
 dig:ij B out
 cr:0≤c∧c<B
 val:vz B out+c*B^(i+j)=vz B oK+p*vz B (y.take j)*B^i
 hi:∀(k:Nat) (h:k<out.length),i+j≤k→out[k]=oK[k]'(by omega)
theorem Row.step{B:Int}(H:0<B){oK out:List Int}{p c q:Int}{y:List Int}{i j:Nat}(h:Row B oK out p c y i j)(Q:0≤p∧p<B)(R:0≤q∧q<B)
  (S:vz B (y.take (j+1))=vz B (y.take j)+B^j*q) (hi:i+j<out.length):
  Row B oK (out.set (i+j) ((out[i+j]+p*q+c) % B)) p ((out[i+j]+p*q+c)/B) y i (j+1):=by
 have P:=h.dig.at hi;have hm:=FE H P Q R h.cr;have hd:=Hj H (s:=out[i+j]+p*q+c) hm.2.1;refine⟨by rw[aO];exact h.len,h.dig.set hd.1 hd.2.1,⟨hm.2.2.2.1,hm.2.2.2.2⟩,?_,?_⟩
 ·rw[Wr hi,S];have T:=h.val;have I:B^(i+(j+1))=B^(i+j)*B:=c9 B (i+j);have J:B^(i+j)=B^i*B^j:=abe B i j;obtain⟨o,E⟩:∃o,o=out[i+j]:=⟨_,rfl⟩;rw[←E]at hd ⊢;obtain⟨r,hr⟩:∃r,r=(o+p*q+c) % B:=⟨_,rfl⟩;obtain⟨d,D⟩:∃d,d=(o+p*q+c)/B:=⟨_,rfl⟩;rw[←hr,←D]at hd ⊢;have M:=hd.2.2.2;rw[I];have K:p*(vz B (y.take j)+B^j*q)*B^i=p*vz B (y.take j)*B^i+p*q*B^(i+j):=by rw[J];grind
  rw[K];have L:d*(B^(i+j)*B)=(o+p*q+c -r)*B^(i+j):=by rw[←M];grind
  rw[L]
  grind
 ·intro k O N;rw[List.getElem_set_ne (by omega)];exact h.hi k (by simpa using O) (by omega)
theorem Row.start{B:Int}(j:0<B){oK:List Int}{p:Int}{y:List Int}{i:Nat}(h:ij B oK):Row B oK oK p 0 y i 0:=by
 refine⟨rfl,h,⟨by omega,j⟩,?_,fun _ _ _=>rfl⟩;simp[vz]
theorem ayu{p q o c:Int}(b:0≤o∧o<4294967296)(d:0≤p∧p<4294967296)(e:0≤q∧q<4294967296)(a:0≤c∧c<4294967296):
  ae .u64 (c+ae .u64 (ae .u64 (ae .u64 p*ae .u64 q)+ae .u64 o))=o+p*q+c:=by
 have g:=FE (B:=4294967296) (by omega) b d e a;rw[Eb (x:=p),Eb (x:=q),Eb (x:=o)];rw[Eb (x:=p*q),Eb (x:=p*q+o),Eb];omega
theorem XW{n:Nat}{p:Int}{xs y o2 oK:List Int}{i:Nat}{z1 z2:Int}(d:0≤p∧p<4294967296)(r:ij 4294967296 y)(w:i+y.length<oK.length)(o:oK.length≤1000000000):
  ∀(m k j:Nat) (c:Int) (out:List Int),j+m=y.length→m<k→Row 4294967296 oK out p c y i j→
  ∃l b,qV n k ((),(),(),(i:Int),p,c,xs,z1,z2,y,(y.length:Int),(j:Int),(y,()),(o2,()),out,())=
   some ((),(),(),(i:Int),l,xs,z1,z2,(y,()),(o2,()),b,())∧Row 4294967296 oK b p l y i y.length
 |0,k,j,c,out,t,u,h=>by
  obtain⟨k,rfl⟩:=gU k;have:j=y.length:=by omega
  subst this;rw[aa2,bN0];exact⟨c,out,rfl,h⟩
 |m+1,k,j,c,out,t,u,h=>by
  obtain⟨k,rfl⟩:=gU k;have e:j<y.length:=by omega
  have a:i+j<out.length:=by rw[h.len];omega
  have z:out.length≤1000000000:=by rw[h.len];exact o
  have g:=r.at e;have q:=h.dig.at a;have D:=h.step (by omega) d g (Mp e) a;have E:=FE (B:=4294967296) (by omega) q d g h.cr;rw[aa2,bP0,bj e];simp only[aa];rw[aN (x:=(i:Int)+(j:Int)),show(i:Int)+(j:Int)=((i+j:Nat):Int)by omega,dO a];simp only[aa];rw[ai a];simp only[aa];rw[ayu q d g h.cr,aoK];simp only[aa];rw[aN (x:=(j:Int)+1),alH,show(j:Int)+1=((j+1:Nat):Int)by omega];exact XW d r w o m k (j+1) _ _ (by omega) (by omega) D
theorem Ts{n:Nat}{x y o2:List Int}(hx:ij 4294967296 x)(z:ij 4294967296 y)(F:x.length+y.length≤1000000000)(I:Hn0 n):
  ∀(m k i:Nat) (out:List Int),i+m=x.length→m<k→out.length=x.length+y.length→ij 4294967296 out→
   vz 4294967296 out=vz 4294967296 (x.take i)*vz 4294967296 y→(∀(k:Nat) (h:k<out.length),i+y.length≤k→out[k]=0)→
  ∃a,qU n k ((),(),(),x,(x.length:Int),(i:Int),(y,()),(o2,()),out,())=some ((),(),(o2,()),a,())∧
   a.length=x.length+y.length∧ij 4294967296 a∧vz 4294967296 a=vz 4294967296 x*vz 4294967296 y
 |0,k,i,out,D,E,e,g,j,l=>by
  obtain⟨k,rfl⟩:=gU k;rw[AB,bN0];refine⟨out,rfl,e,g,?_⟩;rw[j,aR (by omega)]
 |m+1,k,i,out,D,E,e,g,j,l=>by
  obtain⟨k,rfl⟩:=gU k;have o:i<x.length:=by omega
  have J:=hx.at o;rw[AB,bP0,bj o];simp only[aa];obtain⟨c,a,u,b⟩:=XW (n:=n) (p:=x[i]) (xs:=x) (y:=y) (o2:=o2) (oK:=out) (i:=i) (z1:=(x.length:Int)) (z2:=(i:Int)) J z (by omega) (by omega) y.length n 0 0 out (by omega) (by omega) (Row.start (by omega) g);rw[show((0:Nat):Int)=0 from rfl]at u;rw[u];simp only[aa];have d:i+y.length<a.length:=by rw[b.len];omega
  have r:a.length=x.length+y.length:=by rw[b.len];exact e
  rw[aN (x:=(i:Int)+(y.length:Int)),show(i:Int)+(y.length:Int)=((i+y.length:Nat):Int)by omega,dO d];simp only[aa];rw[ai d];simp only[aa];rw[aN (x:=(i:Int)+1),show(i:Int)+1=((i+1:Nat):Int)by omega,alH,Int.emod_eq_of_lt b.cr.1 b.cr.2];have B:a[i+y.length]=0:=by rw[b.hi _ d (az _)];exact l _ _ (az _)
  refine Ts hx z F I m k (i+1) _ (by omega) (by omega) (by rw[aO];exact r) (b.dig.set b.cr.1 b.cr.2) ?_ ?_
  ·rw[Wr d,B,Mp o];have w:=b.val;rw[aR (az y.length),j]at w;rw[Int.sub_zero,w]
   grind
  ·intro q K H;rw[List.getElem_set_ne (by omega)];have t:q<a.length:=by simpa using K
   rw[b.hi q t (by omega)];exact l _ _ (by omega)
def ahn(v:Int):Prop:=jA v≤65536
instance (v:Int):Decidable (ahn v):=by unfold ahn;exact inferInstance
theorem at1{n:Nat}{x y:List Int}(hx:Can 4294967296 x)(d:Can 4294967296 y)(w:x.length+y.length≤1000000)(t:Hn0 n)
  (r:jA (vz 4294967296 x)+jA (vz 4294967296 y)≤65536):
  ∃z,vM n ((x,()),(y,()))=some ((z,()),0)∧Can 4294967296 z∧vz 4294967296 z=vz 4294967296 x*vz 4294967296 y∧z.length≤x.length+y.length:=by
 rw[VG,Ly hx (by omega)];simp only[aa];rw[Ly d (by omega)];simp only[aa];rw[aN (x:=(((jA (vz 4294967296 x):Nat):Int)+((jA (vz 4294967296 y):Nat):Int))) (by omega) (by omega),bN0];rw[aN,fX (m:=x.length+y.length) (by omega) (by omega) (by omega)];simp only[aa];obtain⟨b,g,u,p,q⟩:=Ts (n:=n) (o2:=[]) hx.1 d.1 (by omega) t x.length n 0 (ao (x.length+y.length) 0) (by omega) (by omega) (by simp) (ij.rep (by omega) _) (by rw[ajy];simp[vz]) (by intro k h _;simp);rw[show((0:Nat):Int)=0 from rfl]at g;rw[g];simp only[aa];rw[Tr (by omega) (by omega)];simp only[aa];have e:=qE p;have i:=xl b;have a:vz 4294967296 (xk b)=vz 4294967296 x*vz 4294967296 y:=by rw[wy,q]
 rw[XV e (by omega)];have c:jA (vz 4294967296 (xk b))≤65536:=by
  rw[a];have j:=abc (v:=vz 4294967296 x);have l:=abc (v:=vz 4294967296 y);have b1:=vj (B:=4294967296) (by omega) hx.1;have o:=vj (B:=4294967296) (by omega) d.1;refine ei (Hk (k:=jA (vz 4294967296 x)+jA (vz 4294967296 y)) ?_) r;rw[abe];exact Int.mul_lt_mul' (acP j) l o (ed (by decide))
 rw[if_pos c];exact⟨_,rfl,e,a,by omega⟩
theorem anH{k:IntKind}{a b:Int}{s:Nat}(j:k= .u64∨k= .u32)(l:0≤a)(n:0≤b)(c:b<2^s)(h:a*2^s+b<2^k.bits):r9 .or k (a*2^s) b=a*2^s+b:=by
 obtain⟨a,rfl⟩:∃d:Nat,a=d:=⟨a.toNat,by omega⟩;obtain⟨b,rfl⟩:∃e:Nat,b=e:=⟨b.toNat,by omega⟩;have c:b<2^s:=by exact_mod_cast c
 have g:((a:Int)*2^s)=((a*2^s:Nat):Int):=by simp
 rw[g]at h ⊢;have h:a*2^s+b<2^k.bits:=by exact_mod_cast h
 unfold r9;have i:(BitVec.ofInt k.bits ((a*2^s:Nat):Int) ||| BitVec.ofInt k.bits (b:Int)).toNat=a*2^s+b:=by
  rw[BitVec.toNat_or,BitVec.ofInt_natCast,BitVec.ofInt_natCast,BitVec.toNat_ofNat,BitVec.toNat_ofNat,Nat.mod_eq_of_lt (by omega),Nat.mod_eq_of_lt (by omega)];rw[←Nat.shiftLeft_eq,Nat.shiftLeft_add_eq_or_of_lt c]
 show k.wrap (((BitVec.ofInt k.bits ((a*2^s:Nat):Int) ||| BitVec.ofInt k.bits (b:Int)).toNat:Nat):Int)=_;rw[i];rcases j with rfl |rfl
 ·have h:a*2^s+b<18446744073709551616:=h;rw[Eb (Int.natCast_nonneg _) (Int.ofNat_lt.2 h)];exact Int.natCast_add _ _
 ·have h:a*2^s+b<4294967296:=h;rw[anF (Int.natCast_nonneg _) (Int.ofNat_lt.2 h)];exact Int.natCast_add _ _
theorem bV{a b:Int}(h:0≤a:=by omega):a.tdiv b=a/b:=aK h
theorem pq{a b:Int}(h:0≤a:=by omega):a.tmod b=a % b:=Int.tmod_eq_emod_of_nonneg h
structure Quo (B d:Int) (x out:List Int) (r:Int) (i:Nat):Prop where
 len:out.length=x.length
 dig:ij B out
 rr:0≤r∧r<d
 val:vz B (x.drop i)=d*vz B (out.drop i)+r
theorem Quo.step{B d r:Int}{x out:List Int}{i:Nat}(J:0<B)(hd:0<d)(hx:ij B x)(h:Quo B d x out r (i+1))(hi:i<x.length):
  0≤r*B+x[i]∧r*B+x[i]<d*B∧(r*B+x[i])/d<B∧Quo B d x (out.set i ((r*B+x[i])/d)) ((r*B+x[i]) % d) i:=by
 have K:=hx.at hi;have H:0≤r*B:=cp h.rr.1 (by omega);have I:(r+1)*B≤d*B:=bP (by have:=h.rr.2;omega) (by omega);have D:r*B+x[i]<d*B:=by grind
 have y:(r*B+x[i])/d<B:=Int.ediv_lt_of_lt_mul hd (by grind);have j:=Hj hd (s:=r*B+x[i]) (by omega);have E:i<out.length:=by rw[h.len];exact hi
 refine⟨by omega,D,y,by rw[aO];exact h.len,h.dig.set j.2.2.1 y,⟨j.1,j.2.1⟩,?_⟩;rw[ajA hi,agh E];show _=d*((r*B+x[i])/d+B*vz B (out.drop (i+1)))+(r*B+x[i]) % d;rw[h.val];have:=j.2.2.2
 grind
theorem Quo.fin{B d r:Int}{x out:List Int}(hd:0<d)(h:Quo B d x out r 0):vz B out=vz B x/d∧r=vz B x % d:=by
 have i:=h.val;rw[dy,dy]at i;have:=(afu (a:=vz B x) (b:=d) (r:=r) (q:=vz B out) hd).2 ⟨by omega,h.rr.1,h.rr.2⟩;exact⟨this.1.symm,this.2.symm⟩
theorem XX{n:Nat}{d:Int}{x o1:List Int}(y:1≤d∧d<4294967296)(hx:ij 4294967296 x)(w:x.length≤1000000000):
  ∀(m k:Nat) (r:Int) (out:List Int),m≤x.length→m<k→Quo 4294967296 d x out r m→
  ∃o c,sY n k (d,(),(),(),r,(m:Int) -1,(x,()),(o1,()),out,())=some ((),(),o,(o1,()),c,())∧Quo 4294967296 d x c o 0
 |0,k,r,out,t,u,h=>by
  obtain⟨k,rfl⟩:=gU k;rw[CE,bN0];exact⟨r,out,rfl,h⟩
 |m+1,k,r,out,t,u,h=>by
  obtain⟨k,rfl⟩:=gU k;have e:m<x.length:=by omega
  have l:=hx.at e;have z:=h.rr;obtain⟨g,D,E,B⟩:=h.step (by omega) (by omega) hx e;have j:m<out.length:=by rw[h.len];exact e
  rw[CE,bP0];rw[show((m+1:Nat):Int) -1=(m:Int)by omega,bj e];have p:qc .u64 r 32=some (r*4294967296):=by
   unfold qc;rw[gk];show some (ae .u64 (r*2^32))=_;rw[Eb];rfl
  have i:=anH (k:=.u64) (a:=r) (b:=x[m]) (s:=32) (.inl rfl) z.1 l.1 (by simpa using l.2) (by show r*2^32+x[m]<2^64;omega);rw[show(2:Int)^32=4294967296 from rfl]at i;rw[p];simp only[aa];rw[Eb (x:=x[m]),i,Eb (x:=d)];have q:qt .u64 (r*4294967296+x[m]) d=some ((r*4294967296+x[m])/d):=by
   unfold qt;rw[gk,bV g,Eb (e7 g (by omega)) (by omega)]
  rw[q,kT,pq g,dO j];simp only[aa];rw[ai j];simp only[aa];rw[aN (x:=(m:Int) -1),anF (e7 g (by omega)) (by omega)];exact XX y hx w m k _ _ (by omega) (by omega) B
theorem awn{n:Nat}{d:Int}{x:List Int}(e:1≤d∧d<4294967296)(hx:Can 4294967296 x)(h:x.length≤1000000)(j:Hn0 n):
  ∃q,yT n ((x,()),d)=some ((q,()),vz 4294967296 x % d)∧Can 4294967296 q∧vz 4294967296 q=vz 4294967296 x/d∧q.length≤x.length:=by
 rw[Z6,fX (m:=x.length) rfl (by omega) (by omega)];simp only[aa];obtain⟨r,b,g,a⟩:=XX (n:=n) (d:=d) (x:=x) (o1:=[]) e hx.1 (by omega) x.length n 0 (ao x.length 0) (az _) (by omega)
  ⟨by simp,ij.rep (by omega) _,⟨by omega,by omega⟩,by rw[bA (az _),bA (by simp)];simp[vz]⟩
 rw[aN (x:=(x.length:Int) -1),g];simp only[aa];have i:=a.len;have c:=a.fin (by omega);rw[Tr (by omega) (by omega)];simp only[aa];have k:=a.rr;rw[anF,c.2];refine⟨_,rfl,qE a.dig,by rw[wy];exact c.1,?_⟩;have:=xl b;omega
def ajC:Nat→Int→List Int
 |0,_=>[]
 |k+1,v=>v % 10::ajC k (v/10)
theorem alK:∀(k:Nat) (v:Int),(ajC k v).length=k
 |0,_=>rfl
 |k+1,v=>by show(ajC k (v/10)).length+1=k+1;rw[alK k]
theorem alL:∀(k:Nat) (v:Int),ij 10 (ajC k v)
 |0,_=>ij.nil
 |k+1,v=>ij.cons (by omega) (by omega) (alL k _)
theorem aoL:∀(k:Nat) (v:Int),0≤v→v<10^k→vz 10 (ajC k v)=v
 |0,v,b,a=>by simp at a;show(0:Int)=v;omega
 |k+1,v,b,a=>by
  show v % 10+10*vz 10 (ajC k (v/10))=v;rw[c9]at a;rw[aoL k (v/10) (by omega) (by omega)];omega
def bk(l:List Int):List Int:=l.map (fun d=>48+d)
theorem awo(l m:List Int):bk (l++m)=bk l++bk m:=eu
theorem arL(l:List Int):(bk l).length=l.length:=dc _
def Lz(v:Int)(s:List UInt8):Prop:=(v=0∧s=[48])∨(0<v∧∃P,Can 10 P∧vz 10 P=v∧s=Wt P)
theorem Lz.uniq{v:Int}{s t:List UInt8}(i:Lz v s)(j:Lz v t):s=t:=by
 rcases i with⟨i,rfl⟩|⟨i,P,y,E,rfl⟩<;>rcases j with⟨j,rfl⟩|⟨j,Q,D,H,rfl⟩
 ·rfl
 ·omega
 ·omega
 ·rw[ajz (by omega) y D (by omega)]
theorem at3{d:Int}(b:0≤d)(c:d<10):(UInt8.ofNat (48+d.toNat)==48)=(d==0):=by
 obtain⟨d,rfl⟩:∃a:Nat,d=a:=⟨d.toNat,by omega⟩;have:d<10:=by omega
 match d,this with
 |0,_=>rfl
 |1,_=>rfl
 |2,_=>rfl
 |3,_=>rfl
 |4,_=>rfl
 |5,_=>rfl
 |6,_=>rfl
 |7,_=>rfl
 |8,_=>rfl
 |9,_=>rfl
theorem alM:∀{l:List Int},ij 10 l→(l.map (fun d=>UInt8.ofNat (48+d.toNat))).dropWhile (fun c=>c==48)=(l.dropWhile (fun d=>d==0)).map (fun d=>UInt8.ofNat (48+d.toNat))
 |[],_=>rfl
 |d::l,h=>by
  rw[cb,List.dropWhile_cons,List.dropWhile_cons,at3 h.head.1 h.head.2]
  split
  ·exact alM h.tail
  ·rfl
theorem arM{P:List Int}(h:ij 10 P):(bytesOf (bk P).reverse).dropWhile (fun c=>c==48)=Wt (xk P):=by
 have b:bytesOf (bk P).reverse=(P.reverse).map (fun d=>UInt8.ofNat (48+d.toNat)):=by
  unfold bytesOf bk;rw[List.map_reverse,List.map_map,List.map_reverse];congr 1;refine ft fun d a=> ?_;show UInt8.ofNat (48+d).toNat=_;have:=(h d a).1;rw[Int.toNat_add (by omega) this];rfl
 have a:ij 10 P.reverse:=fun x e=>h x (List.mem_reverse.1 e);rw[b,alM a,←arI];unfold Wt;rw[List.map_reverse]
theorem aho{v d:Int}(j:0<v)(g:2≤d):jA (v/d)<jA v:=by
 have a:=abc (v:=v);have h:jA v≠0:=by intro c;rw[c]at a;simp at a;omega
 obtain⟨b,e⟩:∃b,jA v=b+1:=⟨jA v -1,by omega⟩;rw[e]at a ⊢;rw[c9]at a;refine Nat.lt_succ_of_le (Hk ?_);have i:(0:Int)<2^b:=ed (by decide);refine Int.ediv_lt_of_lt_mul (by omega) ?_;have:(2:Int)^b*2≤2^b*d:=ci g (by omega);omega
theorem ahp{n:Nat}:∀(m k:Nat) (s:List UInt8),s.length=m→m<k→iM n k (s,48,())=some (s.dropWhile (fun c=>c==48),())
 |0,k,s,a,i=>by
  obtain⟨k,rfl⟩:=gU k;rw[List.length_eq_zero_iff.1 a,oD];rfl
 |m+1,k,s,a,i=>by
  obtain⟨k,rfl⟩:=gU k
  match s,a with
  |c::s,a=>
   have a:s.length=m:=by simpa using a
   rw[oD,ag,if_pos (by rw[bx];simp)];have e:FQ (c::s) 0=some (c.toNat:Int):=rfl;have g:slc (c::s) 1 (((c::s).length:Nat):Int)=some s:=alI (l:=c::s) (k:=1) (by simp);rw[e];simp only[aa,ag];rw[List.dropWhile_cons];have d:((c.toNat:Int)==48)=(c==48):=by
    by_cases b:c=48
    ·subst b;rfl
    ·rw[beq_eq_false_iff_ne.2 b,beq_eq_false_iff_ne];intro h;apply b;apply UInt8.toNat_inj.1;rw[show(48:UInt8).toNat=48 from rfl];omega
   rw[d]
   split
   ·rw[g];simp only[aa];exact ahp m k s a (by omega)
   ·rfl
theorem Wu{n:Nat}{s:List UInt8}(a:s.length<n):m9 n (s,[48])=some (s.dropWhile (fun c=>c==48)):=by
 rw[I3]
 match s,a with
 |[],_=>rfl
 |c::s,a=>
  have b:((c::s)==(ej (ByteArray.data (ByteArray.mk (aeZ [])))))=false:=rfl;have d:(([48]:List UInt8)==(ej (ByteArray.data (ByteArray.mk (aeZ [])))))=false:=rfl;rw[b,d];have e:FQ ([48]:List UInt8) 0=some 48:=rfl;simp only[ag,cn,if_false,aa];rw[e];simp only[aa];rw[if_pos (show((([48]:List UInt8).length:Nat):Int)==1 by rfl)];simp only[aa];rw[if_pos (by decide),BF,ahp _ n _ rfl a];rfl
theorem OA{n:Nat}{o:List Int×Unit}:∀(m k j:Nat) (P:List Int) (v:Int),j+m=9→m<k→P.length+m≤1000000000→0≤v→v<4294967296→
  pE n k ((),bk P,v,(j:Int),o,())=some ((),bk (P++ajC m v),o,())
 |0,k,j,P,v,d,e,g,a,h=>by
  obtain⟨k,rfl⟩:=gU k;rw[yb,bN0];simp[ajC]
 |m+1,k,j,P,v,d,e,g,a,h=>by
  obtain⟨k,rfl⟩:=gU k;rw[yb,bP0,kT,pq a];simp only[aa];rw[wu8 (x:=v % 10),wu8];have b:app 1 (bk P) [48+v % 10]=some (bk (P++[v % 10])):=by
   unfold app;rw[if_pos (by rw[arL];unfold room;simp;omega),awo];rfl
  have c:qt .u32 v 10=some (v/10):=by
   unfold qt;rw[gk,bV a,anF]
  rw[b,c];simp only[aa];rw[aN,show(j:Int)+1=((j+1:Nat):Int)by omega];rw[OA m k (j+1) _ _ (by omega) (by omega) (by simp;omega) (by omega) (by omega),bo];rfl
theorem LA{n V:Nat}(u:Hn0 n):∀(k:Nat) (x P:List Int),Can 4294967296 x→x.length≤1000000→ij 10 P→jA (vz 4294967296 x)<k→
  P.length+9*jA (vz 4294967296 x)≤900000000→vz 10 P+10^P.length*vz 4294967296 x=(V:Int)→
  ∃Q,pD n k ((),bk P,(x,()),())=some (bk Q,())∧ij 10 Q∧vz 10 Q=(V:Int)∧Q.length≤900000000
 |0,x,P,_,_,_,h,_,_=>by omega
 |k+1,x,P,y,p,t,J,K,w=>by
  rw[ME];simp only[ag,bx]
  split
  ·rename_i l;have c:x≠[]:=by intro h;rw[h]at l;simp at l
   have i:=alJ (by omega) y c;obtain⟨q,E,H,j,I⟩:=awn (n:=n) (d:=1000000000) (x:=x) ⟨by omega,by omega⟩ y p u;rw[E];simp only[aa];have r:=OA (n:=n) (o:=(q,())) 9 n 0 P (vz 4294967296 x % 1000000000) (by omega) (by omega) (by omega) (by omega) (by omega);rw[show((0:Nat):Int)=0 from rfl]at r;rw[r];simp only[aa];have F:=aho (v:=vz 4294967296 x) (d:=1000000000) i (by omega);rw[←j]at F;have g:=alK 9 (vz 4294967296 x % 1000000000);refine LA u k q (P++ajC 9 (vz 4294967296 x % 1000000000)) H (by omega) (t.app (alL _ _)) (by omega) (by rw[ah,g];omega) ?_;rw[Ea,aoL 9 _ (by omega) (by have:(10:Int)^9=1000000000:=rfl;omega),ah,g,abe,j,←w];have z:(10:Int)^9=1000000000:=rfl;rw[z];have e:=dN (vz 4294967296 x) 1000000000;obtain⟨a,B⟩:∃a,a=vz 4294967296 x/1000000000:=⟨_,rfl⟩;obtain⟨b,D⟩:∃b,b=vz 4294967296 x % 1000000000:=⟨_,rfl⟩;rw[←B,←D]at e ⊢;rw[←e]
   grind
  ·rename_i l;have c:x=[]:=List.length_eq_zero_iff.1 (by omega);subst c;refine⟨P,rfl,t,?_,by omega⟩;rw[←w];simp[vz]
theorem at4{α:Type}{A C:List α}{x y:α}:(A++x::C).set A.length y=A++y::C:=by simp
theorem OB{n:Nat}{back:List Int}(g:back.length≤1000000000):∀(m k i:Nat),i+m=back.length→m<k→
  ox n k (back,(),back,(back.length:Int),(i:Int),ao m 0++(back.take i).reverse,())=some ((),back.reverse,())
 |0,k,i,c,d=>by
  obtain⟨k,rfl⟩:=gU k;rw[xa,bN0,aR (by omega)];rfl
 |m+1,k,i,c,d=>by
  obtain⟨k,rfl⟩:=gU k;have a:i<back.length:=by omega
  rw[xa,bP0,bj a];simp only[aa];have b:(ao (m+1) (0:Int)++(back.take i).reverse).length=back.length:=by simp;omega
  rw[aN (x:=(back.length:Int) -1),aN,show(back.length:Int) -1 -(i:Int)=(m:Int)by omega,dO];simp only[aa];rw[ai (by omega)];simp only[aa];rw[aN,show(i:Int)+1=((i+1:Nat):Int)by omega];have e:(ao (m+1) (0:Int)++(back.take i).reverse).set m back[i]=ao m 0++(back.take (i+1)).reverse:=by
   rw[List.replicate_succ',bo];have h:=at4 (A:=ao m (0:Int)) (C:=(back.take i).reverse) (x:=0) (y:=back[i]);rw[aU]at h;show(ao m 0++0::(back.take i).reverse).set m back[i]=_;rw[h,show back.take (i+1)=back.take i++[back[i]]by rw[dK,ai a];rfl,List.reverse_append];rfl
  rw[e];exact OB g m k (i+1) (by omega) (by omega)
theorem alN{n:Nat}{x:List Int}(hx:Can 4294967296 x)(c:x.length≤1000000)(l:Hn0 n):
  ∃s,mh n (x,())=some s∧Lz (vz 4294967296 x) s:=by
 rw[Sz];simp only[ag,beq_iff_eq]
 split
 ·rename_i h;have a:x=[]:=List.length_eq_zero_iff.1 (by omega);subst a;exact⟨_,rfl,.inl ⟨rfl,rfl⟩⟩
 ·rename_i h;have a:x≠[]:=by intro i;rw[i]at h;simp at h
  have b:=alJ (by omega) hx a;have k:jA (vz 4294967296 x)≤32*x.length:=Hk (by rw[←ajB];exact XU (by omega) hx.1);obtain⟨Q,e,d,o,p⟩:=LA (n:=n) (V:=(vz 4294967296 x).toNat) l n x [] hx c ij.nil (by omega) (by simp;omega) (by simp[vz];omega);rw[show bk []=[]from rfl]at e;rw[e];simp only[aa];have j:(bk Q).length=Q.length:=arL Q;rw[fX (m:=(bk Q).length) rfl (by omega) (by omega)];simp only[aa];have g:=OB (n:=n) (back:=bk Q) (by omega) (bk Q).length n 0 (by omega) (by omega);rw[eW,List.reverse_nil,cG,show((0:Nat):Int)=0 from rfl]at g;rw[g];simp only[aa];rw[Wu (by unfold bytesOf;rw[dc,List.length_reverse];omega)];simp only[aa];refine⟨_,rfl,.inr ⟨b,xk Q,qE d,?_,arM d⟩⟩;rw[wy,o];omega
theorem FF{n:Nat}{l:List Int}(h:l.length≤1000000000):∀(m k i:Nat) (z:Bool),i+m=l.length→m<k→(∀x∈l,0≤x)→
  ∃r,qW n k (l,(),z,l,(l.length:Int),(i:Int),([],()),())=some (.inr (l,(),r,([],()),()))∧(r=true↔z=true∨∃x∈l.drop i,x=0)
 |0,k,i,z,d,g,a=>by
  obtain⟨k,rfl⟩:=gU k;rw[AD,bN0];refine⟨z,rfl,?_⟩;rw[bA (by omega)];simp
 |m+1,k,i,z,d,g,a=>by
  obtain⟨k,rfl⟩:=gU k;have b:i<l.length:=by omega
  rw[AD,bP0,bj b];have o:=a _ (am b);simp only[aa];rw[bN0];have e:av z (some true) (some (l[i]==0))=some (z||l[i]==0):=by cases z<;>rfl
  rw[e];simp only[aa];rw[aN,show(i:Int)+1=((i+1:Nat):Int)by omega];obtain⟨r,j,c⟩:=FF (n:=n) h m k (i+1) (z||l[i]==0) (by omega) (by omega) a;refine⟨r,j,c.trans ?_⟩;rw[bi b];simp only[aD,beq_iff_eq,List.mem_cons,exists_eq_or_imp];exact or_assoc
def kr:List Int→Int
 |[]=>1
 |x::l=>x*kr l
theorem Wv(l m:List Int):kr (l++m)=kr l*kr m:=by
 induction l with
 |nil=>simp[kr]
 |cons x l a=>simp only[ev,kr,a,ae8]
theorem anI{l:List Int}(h:(0:Int)∈l):kr l=0:=by
 induction l with
 |nil=>cases h
 |cons x l a=>
  rcases List.mem_cons.1 h with h |h
  ·simp[kr,←h]
  ·simp[kr,a h]
theorem alO{l:List Int}{b:Nat}(h:∀x∈l,0≤x∧x≤2^b):0≤kr l∧kr l≤2^(b*l.length):=by
 induction l with
 |nil=>simp[kr]
 |cons x l e=>
  have c:=h x aH;have a:=e fun y d=>h y (aG _ d);have g:(0:Int)≤2^(b*l.length):=acP (ed (by decide));refine⟨cp c.1 a.1,?_⟩;show x*kr l≤2^(b*(l.length+1));rw[Nat.mul_add,Nat.mul_one,Nat.add_comm,abe];exact dA c.2 a.2 a.1 (acP (ed (by decide)))
theorem Tt{v:Int}{k:Nat}(h:v≤2^k):jA v≤k+1:=Hk (by rw[c9];have:(0:Int)<2^k:=ed (by decide);omega)
theorem xm{x:List Int}(hx:Can 4294967296 x){k:Nat}(h:vz 4294967296 x<2^k):32*x.length≤k+32:=by
 by_cases a:x=[]
 ·subst a;simp
 ·have b:=arH (by omega) hx a;rw[ajB]at b;have d:(2:Int)^(32*(x.length -1))<2^k:=by omega
  have e:32*(x.length -1)<k:=by
   apply Decidable.byContradiction;intro i;have c:(2:Nat)^k≤2^(32*(x.length -1)):=Nat.pow_le_pow_right (by omega) (by omega);have g:(2:Int)^k≤2^(32*(x.length -1)):=by exact_mod_cast c
   omega
  omega
theorem FG{n:Nat}{l o:List Int}(F:l.length≤1024)(d:∀x∈l,0<x∧x≤2^32)(j:Hn0 n):∀(m k i:Nat) (z:List Int),i+m=l.length→m<k→
  Can 4294967296 z→vz 4294967296 z=kr (l.take i)→
  ∃h,pC n k ((),(),l,(l.length:Int),(i:Int),(o,()),(z,()),())=some (.inr ((),(),(o,()),(h,()),()))∧Can 4294967296 h∧vz 4294967296 h=kr l
 |0,k,i,z,D,E,c,a=>by
  obtain⟨k,rfl⟩:=gU k;rw[ya,bN0];rw[aR (by omega)]at a;exact⟨z,rfl,c,a⟩
 |m+1,k,i,z,D,E,c,a=>by
  obtain⟨k,rfl⟩:=gU k;have e:i<l.length:=by omega
  have H:=d _ (am e);rw[ya,bP0,bj e];simp only[aa];have B:(2:Int)^32=4294967296:=rfl;rw[Eb];obtain⟨y,J,u,r,M⟩:=arK (n:=n) (by omega) (v:=l[i]) (by omega) (by omega);rw[J];simp only[aa];have q:=alO (l:=l.take i) (b:=32) (fun x p=>⟨by have:=(d x (cS p)).1;omega,(d x (cS p)).2⟩);have g:(l.take i).length=i:=by rw[aC];omega
  rw[g,←a]at q;have b1:=Tt q.2;have L:=Tt (v:=vz 4294967296 y) (k:=32) (by rw[r];exact H.2);have N:=xm c (k:=32*i+1) (by rw[c9];have:(0:Int)<2^(32*i):=ed (by decide);omega);obtain⟨w,I,t,K,-⟩:=at1 (n:=n) c u (by omega) j (by omega);rw[I];simp only[aa];rw[ag,if_neg (by simp),aN,show(i:Int)+1=((i+1:Nat):Int)by omega];refine FG F d j m k (i+1) w (by omega) (by omega) t ?_;rw[K,a,r,dK,ai e,Option.toList_some,Wv];simp[kr]
theorem XY{n:Nat}{l:List Int}(q:l.length≤1024)(g:∀x∈l,0≤x∧x≤2^32)(t:Hn0 n):
  ∃z,nZ n l=some ((z,()),0)∧Can 4294967296 z∧vz 4294967296 z=kr l:=by
 rw[VH];obtain⟨r,i,a⟩:=FF (n:=n) (l:=l) (by omega) l.length n 0 false (by omega) (by omega) (fun x b=>(g x b).1);rw[show((0:Nat):Int)=0 from rfl]at i;rw[i];simp only[aa,cI,ag];rw[dy]at a
 split
 ·rename_i h;have d:(0:Int)∈l:=by
   rcases a.1 h with h |⟨x,b,rfl⟩
   ·cases h
   ·exact b
  exact⟨[],rfl,Can.nil,by rw[anI d];rfl⟩
 ·rename_i h;have c:∀x∈l,0<x∧x≤2^32:=by
   intro x b;have:=g x b;refine⟨?_,this.2⟩;have:x≠0:=fun d=>h (a.2 (.inr ⟨x,b,d⟩));omega
  obtain⟨y,u,k,w,-⟩:=arK (n:=n) (by omega) (v:=1) (by omega) (by omega);rw[u];simp only[aa];obtain⟨z,j,p,e⟩:=FG (n:=n) (o:=[]) q c t l.length n 0 y (by omega) (by omega) k (by rw[w];rfl);rw[show((0:Nat):Int)=0 from rfl]at j;rw[j];exact⟨z,rfl,p,e⟩
theorem Tu{n:Nat}:∀(m k:Nat) (l:List Int),l.length=m→m<k→m≤1000000000→
  wk n k (l,())=some (xk l,())
 |0,k,l,b,i,g=>by
  obtain⟨k,rfl⟩:=gU k;rw[List.length_eq_zero_iff.1 b,Fs];rfl
 |m+1,k,l,b,i,g=>by
  obtain⟨k,rfl⟩:=gU k;obtain⟨a,x,rfl⟩:∃a x,l=a++[x]:=by
   have:l≠[]:=by intro h;rw[h]at b;simp at b
   exact⟨_,_,(bL this).symm⟩
  have c:a.length=m:=by simpa using b
  rw[Fs];have d:ae .i64 ((((a++[x]).length:Nat):Int) -1)=(m:Int):=by rw[b,aN];omega
  have e:idx (a++[x]) (m:Int)=some x:=by rw[bj (by omega)];simp[←c]
  rw[d,e,ag,if_pos (by rw[bx,b];omega)];simp only[aa,ag,beq_iff_eq]
  split
  ·rename_i h;subst h;rw[vk];simp only[aa];rw[show(a++[(0:Int)]).take m=a by rw[←c];simp,Mn];exact Tu m k a c (by omega) (by omega)
  ·rename_i h;rw[Mo h]
theorem aoM{n:Nat}{l:List Int}(h:l.length<n)(a:l.length≤1000000000):wS n l=some (xk l):=by
 rw[adn,Tu _ n l rfl h a];rfl
theorem dU{α:Type}{b:Nat}{l m:List α}(h:l.length+m.length≤10000000000:=by omega)(a:b≤1000:=by omega):app b l m=some (l++m):=by
 unfold app;have:(l.length+m.length)*b≤10000000000*1000:=bD h a;rw[if_pos (by unfold room;omega)]
theorem Can.app{B:Int}{l m:List Int}(y:ij B l)(i:Can B m)(j:m≠[]):Can B (l++m):=by
 refine⟨y.app i.1,fun h=> ?_⟩;rw[List.getLast_append_of_ne_nil h j];exact i.2 j
theorem XZ{n:Nat}:∀(m k:Nat) (v:Int) (l:List Int),0≤v→v<65536^m→v≤9223372036854775807→m<k→l.length+m≤100→ij 65536 l→
  ∃a,zb n k (v,l,())=some (l++a,())∧Can 65536 a∧vz 65536 a=v∧a.length≤m
 |0,k,v,l,b,c,i,j,o,d=>by
  obtain⟨k,rfl⟩:=gU k;have:v=0:=by simp at c;omega
  subst this;rw[ID];exact⟨[],by simp[av],Can.nil,rfl,az _⟩
 |m+1,k,v,l,b,c,i,j,o,d=>by
  obtain⟨k,rfl⟩:=gU k;rw[ID]
  by_cases h:v=0
  ·subst h;exact⟨[],by simp[av],Can.nil,rfl,Nat.zero_le _⟩
  ·rw[bP0,kT,pq b];simp only[aa];rw[dU (by simp;omega) (by omega)];simp only[aa];rw[zh (by omega) (by rw[bV b];omega) (by rw[bV b];omega),bV b];simp only[aa];rw[c9]at c;obtain⟨a,q,p,g,r⟩:=XZ (n:=n) m k (v/65536) (l++[v % 65536]) (by omega) (by omega) (by omega) (by omega) (by simp;omega) (d.app (ij.cons (by omega) (by omega) ij.nil));rw[q];refine⟨v % 65536::a,by simp,?_,?_,by simpa using r⟩
   ·by_cases e:a=[]
    ·subst e;refine⟨ij.cons (by omega) (by omega) ij.nil,fun _=> ?_⟩;have:v/65536=0:=by rw[←g];rfl
     simp;omega
    ·exact Can.app (l:=[v % 65536]) (ij.cons (by omega) (by omega) ij.nil) p e
   ·show v % 65536+65536*vz 65536 a=v;rw[g];omega
theorem arN{n:Nat}(h:10<n){v:Int}(a:0≤v)(b:v≤9223372036854775807):∃x,Ai n v=some x∧Can 65536 x∧vz 65536 x=v∧x.length≤4:=by
 rw[afC];obtain⟨l,d,c,g,e⟩:=XZ (n:=n) 4 n v [] a (by have:(65536:Int)^4=18446744073709551616:=rfl;omega) b (by omega) (by simp) ij.nil;rw[d];exact⟨l,by simp,c,g,e⟩
theorem arO{n:Nat}{x:List Int}{i:Nat}:GN n (x,(i:Int))=some (x.getD i 0):=by
 rw[afD];simp only[ag,bx]
 split
 ·rename_i h;have h:i<x.length:=by omega
  rw[bj h];simp[h]
 ·rename_i h;have h:x.length≤i:=by omega
  simp[h]
theorem ayv{p q o c:Int}(b:0≤o∧o<65536)(d:0≤p∧p<65536)(e:0≤q∧q<65536)(a:0≤c∧c<65536):
  ae .i64 (ae .i64 (o+ae .i64 (p*q))+c)=o+p*q+c:=by
 have g:=FE (B:=65536) (by omega) b d e a;rw[aN (x:=p*q),aN (x:=o+p*q),aN]
theorem X0{n:Nat}{xs y oK:List Int}{i:Nat}{z1 z2:Int}(hx:ij 65536 xs)(hi:i<xs.length)(F:ij 65536 y)(D:i+y.length<oK.length)(r:oK.length≤1000000000):
  ∀(m k j:Nat) (c:Int) (out:List Int),j+m=y.length→m+1<k→Row 65536 oK out xs[i] c y i j→
  (∀(q:Nat) (h:q<oK.length),i+y.length≤q→oK[q]=0)→
  ∃d,wm n k (xs,y,(),(i:Int),c,(j:Int),z1,z2,out,())=some (xs,y,(),z1,z2,d,())∧
   d.length=oK.length∧ij 65536 d∧vz 65536 d=vz 65536 oK+xs[i]*vz 65536 y*65536^i∧(∀(q:Nat) (h:q<d.length),i+y.length+1≤q→d[q]=0)
 |0,k,j,c,out,H,I,h,z=>by
  obtain⟨k,rfl⟩:=gU k;have:j=y.length:=by omega
  subst this;rw[vd,bN0];simp only[aa,ag,bx];have w:=h.val;have b:i+y.length<out.length:=by rw[h.len];exact D
  have u:out.length≤1000000000:=by rw[h.len];exact r
  rw[aR (az y.length)]at w;have g:∀(q:Nat) (o:q<out.length),i+y.length≤q→out[q]=0:=fun q o e=>by rw[h.hi q o e];exact z _ _ e
  split
  ·rename_i J;have l:=hx.at hi;rw[aN (x:=(i:Int)+(y.length:Int)),show(i:Int)+(y.length:Int)=((i+y.length:Nat):Int)by omega,dO b];simp only[aa];rw[ai b];simp only[aa];rw[bj hi,arO,g _ b (az _)];simp only[aa];rw[show y.getD y.length 0=0 by simp,ayv ⟨by omega,by omega⟩ l ⟨by omega,by omega⟩ h.cr,Int.mul_zero,Int.zero_add,Int.zero_add];have a:=h.cr;rw[kT,zh (by omega) (by rw[bV a.1];omega) (by rw[bV a.1];omega),bV a.1,pq a.1,Int.emod_eq_of_lt a.1 a.2,ae7 a.1 a.2];simp only[aa];rw[aN (x:=(y.length:Int)+1)];obtain⟨k,rfl⟩:=gU k;rw[vd,bN0];simp only[aa,ag,bx];rw[gk];refine⟨_,rfl,by rw[aO];exact h.len,h.dig.set a.1 a.2,?_,?_⟩
   ·rw[Wr b,g _ b (az _),Int.sub_zero,w]
   ·intro q e K;rw[List.getElem_set_ne (by omega)];exact g q (by simpa using e) (by omega)
  ·rename_i J;have:c=0:=by have:=h.cr;omega
   subst this;refine⟨out,rfl,h.len,h.dig,by rw[←w];omega,fun q o e=>g q o (by omega)⟩
 |m+1,k,j,c,out,H,I,h,z=>by
  obtain⟨k,rfl⟩:=gU k;have t:j<y.length:=by omega
  have b:i+j<out.length:=by rw[h.len];omega
  have u:out.length≤1000000000:=by rw[h.len];exact r
  have l:=hx.at hi;have e:=F.at t;have E:=h.dig.at b;have L:=h.step (by omega) l e (Mp t) b;have p:=FE (B:=65536) (by omega) E l e h.cr;rw[vd,bP0];simp only[aa,ag,if_true];rw[aN (x:=(i:Int)+(j:Int)),show(i:Int)+(j:Int)=((i+j:Nat):Int)by omega,dO b];simp only[aa];rw[ai b];simp only[aa];rw[bj hi,arO];simp only[aa];rw[show y.getD j 0=y[j]by simp[t],ayv E l e h.cr];rw[kT,zh (by omega) (by rw[bV p.2.1];omega) (by rw[bV p.2.1];omega),bV p.2.1,pq p.2.1];simp only[aa];rw[aN (x:=(j:Int)+1),show(j:Int)+1=((j+1:Nat):Int)by omega];exact X0 hx hi F D r m k (j+1) _ _ (by omega) (by omega) L z
theorem Tw{n:Nat}{x y:List Int}(hx:ij 65536 x)(l:ij 65536 y)(r:x.length+y.length≤1000000000)(u:Hn0 n):
  ∀(m k i:Nat) (out:List Int),i+m=x.length→m<k→out.length=x.length+y.length→ij 65536 out→
   vz 65536 out=vz 65536 (x.take i)*vz 65536 y→(∀(k:Nat) (h:k<out.length),i+y.length≤k→out[k]=0)→
  ∃a,wl n k (x,y,(),(x.length:Int),(i:Int),out,())=some ((),a,())∧
   a.length=x.length+y.length∧ij 65536 a∧vz 65536 a=vz 65536 x*vz 65536 y
 |0,k,i,out,o,p,d,b,c,e=>by
  obtain⟨k,rfl⟩:=gU k;rw[Ft,bN0];refine⟨out,rfl,d,b,?_⟩;rw[c,aR (by omega)]
 |m+1,k,i,out,o,p,d,b,c,e=>by
  obtain⟨k,rfl⟩:=gU k;have j:i<x.length:=by omega
  rw[Ft,bP0];obtain⟨a,g,B,t,w,z⟩:=X0 (n:=n) (xs:=x) (y:=y) (oK:=out) (i:=i) (z1:=(x.length:Int)) (z2:=(i:Int)) hx j l (by omega) (by omega) y.length n 0 0 out (by omega) (by omega) (Row.start (by omega) b) e;rw[show((0:Nat):Int)=0 from rfl]at g;rw[g];simp only[aa];rw[aN,show(i:Int)+1=((i+1:Nat):Int)by omega];refine Tw hx l r u m k (i+1) _ (by omega) (by omega) (by omega) t ?_ (fun q h D=>z q h (by omega));rw[w,c,Mp j]
  grind
theorem aoN{n:Nat}{x y:List Int}(hx:ij 65536 x)(g:ij 65536 y)(j:x.length+y.length≤1000000)(e:Hn0 n):
  ∃z,wT n (x,y)=some z∧Can 65536 z∧vz 65536 z=vz 65536 x*vz 65536 y∧z.length≤x.length+y.length:=by
 rw[ado,aN,fX (m:=x.length+y.length) (by omega) (by omega) (by omega)];simp only[aa];obtain⟨a,b,i,c,d⟩:=Tw (n:=n) hx g (by omega) e x.length n 0 (ao (x.length+y.length) 0) (by omega) (by omega) (by simp) (ij.rep (by omega) _) (by rw[ajy];simp[vz]) (by intro k h _;simp);rw[show((0:Nat):Int)=0 from rfl]at b;rw[b];simp only[aa];rw[aoM (by omega) (by omega)];refine⟨_,rfl,qE c,by rw[wy,d],?_⟩;have:=xl a;omega
theorem abt{s t:List UInt8}(h:s.length+t.length≤10000000000):cat s t=some (s++t):=by
 unfold cat;rw[lf]
theorem apQ{k:IntKind}{a b:Int}:r9 .or k a b=r9 .or k b a:=by
 unfold r9;show k.wrap (((BitVec.ofInt k.bits a ||| BitVec.ofInt k.bits b).toNat:Nat):Int)=k.wrap (((BitVec.ofInt k.bits b ||| BitVec.ofInt k.bits a).toNat:Nat):Int);rw[BitVec.or_comm]
structure UpI (x out:List Int) (q r i:Nat):Prop where
 len:out.length=x.length+q+1
 dig:ij 4294967296 out
 val:vz 4294967296 out=vz 4294967296 (x.take i)*(4294967296^q*2^r)
 lo:∀(h:i+q<out.length),out[i+q]<2^r
 hi:∀(k:Nat) (h:k<out.length),i+q<k→out[k]=0
theorem aef{r:Nat}(h:r≤32):(2:Int)^r≤4294967296:=by
 have:(2:Nat)^r≤2^32:=Nat.pow_le_pow_right (by omega) h;have h:((2^r:Nat):Int)≤((2^32:Nat):Int):=by exact_mod_cast this
 simpa using h
theorem aAp{p P Q:Int}(d:0≤p∧p<4294967296)(b:0<P)(e:0<Q)(c:P*Q=4294967296):
  0≤p*P∧p*P≤4294967295*4294967296∧p*P/4294967296<P:=by
 have a:P≤4294967296:=by
  rw[←c];have:=ci (show 1≤Q by omega) (show 0≤P by omega);rwa[Int.mul_one]at this
 refine⟨cp d.1 (by omega),dA (by omega) a (by omega) (by omega),Int.ediv_lt_of_lt_mul (by omega) ?_⟩;have:=Int.mul_lt_mul_of_pos_right d.2 b;rwa[aa5 4294967296 P]at this
theorem aAq{p P Q:Int}(b:0<P)(d:0<Q)(c:P*Q=4294967296):
  ∃a,p*P % 4294967296=a*P∧0≤a∧a<Q:=by
 refine⟨p % Q,?_,e9 _ (by omega),dz _ d⟩;rw[←c,aa5 P Q,aa5 p P,aa5 Q P,Int.mul_emod_mul_of_pos p Q b,aa5]
theorem aAr{a P Q o:Int}(c:0<P)(b:P*Q=4294967296)(d:a<Q)(e:o<P):a*P+o<4294967296:=by
 have h:=bP (show a+1≤Q by omega) (show 0≤P by omega);rw[aa5 Q P,b,Int.add_mul,Int.one_mul]at h;omega
theorem ayx{p o:Int}{r:Nat}(x:r<32)(w:0≤p∧p<4294967296)(g:0≤o∧o<2^r):
  r9 .or .u32 o (p*2^r % 4294967296)=o+p*2^r % 4294967296∧r9 .or .u32 0 (p*2^r/4294967296)=p*2^r/4294967296∧
  o+p*2^r % 4294967296<4294967296∧p*2^r/4294967296<2^r∧0≤p*2^r∧p*2^r≤4294967295*4294967296:=by
 have c:(0:Int)<2^r:=ed (by decide);have e:(0:Int)<2^(32 -r):=ed (by decide);have d:(2:Int)^r*2^(32 -r)=4294967296:=by rw[←abe,show r+(32 -r)=32 by omega];rfl
 obtain⟨h,n,i⟩:=aAp w c e d;obtain⟨a,b1,q,t⟩:=aAq (p:=p) c e d;have u:=aAr c d t g.2;have d0:0≤p*2^r/4294967296:=e7 h (by omega);refine⟨?_,?_,by rw[b1];omega,i,h,n⟩
 ·rw[apQ,b1,anH (k:=.u32) (a:=a) (b:=o) (s:=r) (.inr rfl) q g.1 g.2 (by show a*2^r+o<2^32;exact u)];exact Int.add_comm _ _
 ·have l:(2:Int)^r≤4294967296:=aef (by omega);have j:(2:Int)^32=4294967296:=rfl;have:=anH (k:=.u32) (a:=0) (b:=p*2^r/4294967296) (s:=r) (.inr rfl) (by omega) d0 i (by show(0:Int)*2^r+_<2^32;rw[Int.zero_mul,Int.zero_add];omega);rw[Int.zero_mul,Int.zero_add]at this;exact this
theorem aAs{v lo hi p P o a c b:Int}(d:lo+4294967296*hi=p*P)(e:a=c*b):
  v*(b*P)+(o+lo -o)*a+(hi -0)*(a*4294967296)=(v+c*p)*(b*P):=by
 have g:c*b*(p*P)=c*p*(b*P):=by
  rw[ae8,ae8,Int.mul_left_comm b p P]
 rw[Int.add_mul,←g,←d,e]
 grind
theorem at6{x out:List Int}{q r i:Nat}(J:r<32)(hx:ij 4294967296 x)(hi:i<x.length)(h:UpI x out q r i)(g1:i+q<out.length)(z:i+q+1<out.length):
  UpI x ((out.set (i+q) (out[i+q]+x[i]*2^r % 4294967296)).set (i+q+1) (x[i]*2^r/4294967296)) q r (i+1):=by
 have D:=hx.at hi;have d:=h.len;have I:=h.dig.at g1;have u:=h.lo g1;obtain⟨p,e⟩:∃p,p=x[i]:=⟨_,rfl⟩;rw[←e]at D ⊢;obtain⟨d1,d2,d3,d4,d5,d6⟩:=ayx J D ⟨I.1,u⟩;obtain⟨w,y,l,j⟩:=Hj (B:=4294967296) (by omega) d5;obtain⟨P,k⟩:∃P:Int,P=2^r:=⟨_,rfl⟩;rw[←k]at d3 d4 d5 d6 w y l j ⊢;have F:P≤4294967296:=by rw[k];exact aef (by omega)
 have K:out[i+q+1]=0:=h.hi _ z (by omega);obtain⟨g,t⟩:∃g,g=p*P % 4294967296:=⟨_,rfl⟩;obtain⟨c,n⟩:∃c,c=p*P/4294967296:=⟨_,rfl⟩;rw[←t]at d3 w y j ⊢;rw[←n]at d4 l j ⊢;have a:ij 4294967296 (out.set (i+q) (out[i+q]+g)):=h.dig.set (by omega) (by omega);have E:i+q+1<(out.set (i+q) (out[i+q]+g)).length:=by rw[aO];exact z
 have b:(out.set (i+q) (out[i+q]+g))[i+q+1]=0:=by rw[List.getElem_set_ne (by omega)];exact K
 refine⟨by rw[aO,aO];exact d,a.set l (by omega),?_,?_,?_⟩
 ·rw[Wr E,b,Wr g1,h.val,Mp hi,←e,←k,c9];exact aAs j (abe _ _ _)
 ·intro M;rw[←k];have:i+1+q=i+q+1:=by omega
  simp only[this];rw[List.getElem_set_self];exact d4
 ·intro L o H;rw[List.getElem_set_ne (by omega),List.getElem_set_ne (by omega)];exact h.hi L (by simpa using o) (by omega)
theorem ayy{p:Int}{r:Nat}(b:r<32)(a:0≤p∧p<4294967296)(d5:0≤p*2^r)(d6:p*2^r≤4294967295*4294967296):
  qc .u64 (ae .u64 p) (r:Int)=some (p*2^r):=by
 unfold qc;rw[gk,ax,show min r (b9 .u64)=r by show min r 64=r;omega,Eb (x:=p),Eb d5 (by omega)]
theorem ayz{N:Int}{q r:Nat}(a:N=((32*q+r:Nat):Int))(b:r<32):rm N 32=some (r:Int):=by rw[kT,pq,a,show((32*q+r:Nat):Int) % 32=(r:Int)by omega]
theorem ayA{N:Int}{q r:Nat}(a:N=((32*q+r:Nat):Int))(c:r<32)(b:q≤10000):qt .i64 N 32=some (q:Int):=by rw[zh (by omega) (by rw[bV];omega) (by rw[bV];omega),bV,a,show((32*q+r:Nat):Int)/32=(q:Int)by omega]
theorem awp{n k:Nat}{x o1 out:List Int}{N:Int}{q r i:Nat}(j:N=((32*q+r:Nat):Int))(c:r<32)(y:q≤10000)(hx:ij 4294967296 x)(F:x.length≤100000)(hi:i<x.length)(h:UpI x out q r i)(g1:i+q<out.length)(d:i+q+1<out.length):
  mg n (k+1) (N,(),(),x,(x.length:Int),(i:Int),(o1,()),out,())=mg n k (N,(),(),x,(x.length:Int),((i+1:Nat):Int),(o1,()),((out.set (i+q) (out[i+q]+x[i]*2^r % 4294967296)).set (i+q+1) (x[i]*2^r/4294967296)),()):=by
 have g:=hx.at hi;have w:=h.dig.at g1;have e:=h.lo g1;have z:out[i+q+1]=0:=h.hi _ d (by omega);obtain⟨p,b⟩:∃p,p=x[i]:=⟨_,rfl⟩;rw[←b]at g ⊢;obtain⟨d1,d2,d3,d4,d5,d6⟩:=ayx c g ⟨w.1,e⟩;have o:0≤p*2^r/4294967296:=e7 d5 (by omega);have t:p*2^r/4294967296<4294967296:=Int.lt_of_lt_of_le d4 (aef (by omega));have a:(out.set (i+q) (out[i+q]+p*2^r % 4294967296))[i+q+1]? =some 0:=by
  rw[dq (by omega),ai d,z]
 have l:ae .i64 ((i:Int)+(q:Int))=((i+q:Nat):Int):=by rw[aN];omega
 have B:ae .i64 (((i+q:Nat):Int)+1)=((i+q+1:Nat):Int):=by rw[aN];omega
 have D:ae .i64 ((i:Int)+1)=((i+1:Nat):Int):=by rw[aN];omega
 have E:ae .u32 (p*2^r/4294967296)=p*2^r/4294967296:=anF o t;have c0:decide ((i:Int)<(x.length:Int))=true:=by rw[bx];omega
 have u:i+q+1<(out.set (i+q) (out[i+q]+p*2^r % 4294967296)).length:=by rw[aO];exact d
 rw[CD,ag,if_pos c0,bj hi,←b,aa,ayz j c,aa,ayy c g d5 d6,aa,ayA j c y,aa,l,dO g1,aa,ai g1,aa];rw[aa,ai g1,aa,aa,alH,d1,l,B,dO u,aa,a,aa,aoK,aa,aa,a,aa,E,d2,D]
theorem X1{n:Nat}{x o1:List Int}{N:Int}{q r:Nat}(d:N=((32*q+r:Nat):Int))(b:r<32)(l:q≤10000)(hx:ij 4294967296 x)(e:x.length≤100000):∀(m k i:Nat) (out:List Int),i+m=x.length→m<k→UpI x out q r i→
  ∃a,mg n k (N,(),(),x,(x.length:Int),(i:Int),(o1,()),out,())=some ((),(),(o1,()),a,())∧UpI x a q r x.length
 |0,k,i,out,o,p,h=>by
  obtain⟨k,rfl⟩:=gU k;rw[CD,bN0];have:i=x.length:=by omega
  subst this;exact⟨out,rfl,h⟩
 |m+1,k,i,out,o,p,h=>by
  obtain⟨k,rfl⟩:=gU k;have g:i<x.length:=by omega
  have j:=h.len;have g1:i+q<out.length:=by omega
  have c:i+q+1<out.length:=by omega
  rw[awp d b l hx e g h g1 c];exact X1 d b l hx e m k (i+1) _ (by omega) (by omega) (at6 b hx g h g1 c)
theorem arR{n:Nat}{x:List Int}{N:Nat}(hx:Can 4294967296 x)(j:x.length≤10000)(l:Hn0 n)(d:x=[]∨N+jA (vz 4294967296 x)≤65536):
  ∃z,sX n ((x,()),(N:Int))=some ((z,()),0)∧Can 4294967296 z∧vz 4294967296 z=vz 4294967296 x*2^N∧z.length≤x.length+N/32+1:=by
 rw[Z5,bN0,ag]
 by_cases a:x=[]
 ·subst a;rw[if_pos (by rfl)];exact⟨[],rfl,Can.nil,by simp[vz],by simp⟩
 rw[if_neg (by rw[beq_iff_eq];show ¬ (x.length:Int)=0;have:=List.length_pos_iff.2 a;omega),Ly hx (by omega)];simp only[aa];have g:N+jA (vz 4294967296 x)≤65536:=by
  rcases d with h |h
  ·exact absurd h a
  ·exact h
 rw[aN (x:=65536 -((jA (vz 4294967296 x):Nat):Int)),bN0];have b:qt .i64 (N:Int) 32=some ((N/32:Nat):Int):=by rw[zh (by omega) (by rw[bV];omega) (by rw[bV];omega),bV];congr 1
 rw[b];simp only[aa];rw[aN (x:=(x.length:Int)+((N/32:Nat):Int)),aN,fX (m:=x.length+N/32+1) (by omega) (by omega) (by omega)];simp only[aa];obtain⟨c,e,h⟩:=X1 (n:=n) (x:=x) (o1:=[]) (N:=(N:Int)) (q:=N/32) (r:=N % 32) (by rw[show 32*(N/32)+N % 32=N by omega]) (by omega) (by omega) hx.1 (by omega) x.length n 0 (ao (x.length+N/32+1) 0) (by omega) (by omega)
  ⟨by simp,ij.rep (by omega) _,by rw[ajy];simp[vz],fun h=>by simp;exact ed (by decide),fun k h _=>by simp⟩
 rw[show((0:Nat):Int)=0 from rfl]at e;rw[e];simp only[aa];have i:=h.len;rw[Tr (by omega) (by omega)];refine⟨_,rfl,qE h.dig,?_,by have:=xl c;omega⟩;rw[wy,h.val,ch,ajB,←abe,show 32*(N/32)+N % 32=N by omega]
end Go.Am.Pu
