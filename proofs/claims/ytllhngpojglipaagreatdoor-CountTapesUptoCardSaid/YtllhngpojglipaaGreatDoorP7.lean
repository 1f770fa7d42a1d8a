import Derived.Test.YtllhngpojglipaaGreatDoorP1
import Derived.Test.YtllhngpojglipaaGreatDoorE3
import Derived.Test.YtllhngpojglipaaGreatDoorE4
set_option linter.unusedVariables false
set_option linter.unusedSimpArgs false
open Bool renaming false_eq_true→cp
open Int renaming ediv_nonneg→fv,emod_lt_of_pos→dD,emod_nonneg→fw,mul_ediv_add_emod→dU,mul_le_mul_of_nonneg_left→dF,mul_le_mul→dR,mul_nonneg→dq,pow_pos→fp,pow_succ→dP,toNat_natCast→ax
open Go.IntKind renaming bits→b9,i64→bw,signed→fW,wrap→ap
open List renaming dropLast_concat_getLast→bQ,drop_eq_getElem_cons→bz,getElem?_eq_getElem→ah,getElem_mem→ak,length_append→ag,length_set→aP,length_singleton→fO,length_take→aC,mem_append_left→aR,mem_append_right→bo,mem_cons_of_mem→aF,mem_cons_self→aH,mem_or_eq_of_mem_set→ev,replicate_succ→cM,replicate→ao,take_add_one→dO,take_of_length_le→bA
open Nat renaming le_refl→aA,le_trans→eA,mul_le_mul→bK
open Option renaming bind_some→aa
namespace Go.Am.Pu
open Go Go.Am
def vz(B:Int):List Int→Int
 |[]=>0
 |d::l=>d+B*vz B l
def jl(B:Int)(l:List Int):Prop:=∀d∈l,0≤d∧d<B
def Can(B:Int)(l:List Int):Prop:=jl B l∧∀h:l≠[],l.getLast h≠0
theorem jl.nil{B:Int}:jl B []:=fun d h=>by cases h
theorem jl.cons{B d:Int}{l:List Int}(h1:0≤d)(h2:d<B)(h:jl B l):jl B (d::l):=by
 intro x hx;rcases List.mem_cons.1 hx with rfl |hx
 ·exact⟨h1,h2⟩
 ·exact h x hx
theorem jl.app{B:Int}{l m:List Int}(h1:jl B l)(h2:jl B m):jl B (l++m):=by
 intro x hx;rcases List.mem_append.1 hx with hx |hx
 ·exact h1 x hx
 ·exact h2 x hx
theorem jl.head{B d:Int}{l:List Int}(h:jl B (d::l)):0≤d∧d<B:=h d aH
theorem jl.tail{B d:Int}{l:List Int}(h:jl B (d::l)):jl B l:=fun x hx=>h x (aF _ hx)
theorem jl.left{B:Int}{l m:List Int}(h:jl B (l++m)):jl B l:=fun x hx=>h x (aR _ hx)
theorem jl.right{B:Int}{l m:List Int}(h:jl B (l++m)):jl B m:=fun x hx=>h x (bo _ hx)
theorem jl.at{B:Int}{l:List Int}(h:jl B l){i:Nat}(hi:i<l.length):0≤l[i]∧l[i]<B:=h _ (ak hi)
theorem jl.set{B:Int}{l:List Int}(h:jl B l){i:Nat}{v:Int}(h1:0≤v)(h2:v<B):jl B (l.set i v):=by
 intro x hx;rcases ev hx with hx |rfl
 ·exact h x hx
 ·exact⟨h1,h2⟩
theorem jl.rep{B:Int}(hB:0<B)(n:Nat):jl B (ao n 0):=by
 intro x hx;rw[List.eq_of_mem_replicate hx];exact⟨by omega,hB⟩
theorem Mm{B:Int}:∀(l m:List Int),vz B (l++m)=vz B l+B^l.length*vz B m
 |[],m=>by simp[vz]
 |d::l,m=>by
  show d+B*vz B (l++m)=d+B*vz B l+B^(l.length+1)*vz B m;rw[Mm l m,dP]
  grind
theorem akR{B:Int}(n:Nat):vz B (ao n 0)=0:=by
 induction n with
 |zero=>rfl
 |succ n ih=>rw[cM];simp[vz,ih]
theorem Gu{B:Int}(hB:0<B):∀{l:List Int},jl B l→0≤vz B l
 |[],_=>by simp[vz]
 |d::l,h=>by
  have h1:=h.head;have h2:=dq (show 0≤B by omega) (Gu hB h.tail);show 0≤d+B*vz B l;omega
theorem aqt{B:Int}(hB:0<B):∀{l:List Int},jl B l→vz B l<B^l.length
 |[],_=>by simp[vz]
 |d::l,h=>by
  have h1:=h.head;have h2:B*(vz B l+1)≤B*B^l.length:=dF (by have:=aqt hB h.tail;omega) (by omega);show d+B*vz B l<B^(l.length+1);rw[dP]
  grind
theorem Xe{B:Int}:∀{l:List Int} {k:Nat} {v:Int} (hk:k<l.length),vz B (l.set k v)=vz B l+(v -l[k])*B^k
 |d::l,0,v,_=>by
  show v+B*vz B l=d+B*vz B l+(v -d)*B^0
  grind
 |d::l,k+1,v,hk=>by
  have hk2:k<l.length:=by simpa using hk
  show d+B*vz B (l.set k v)=d+B*vz B l+(v -l[k])*B^(k+1);rw[Xe hk2,dP]
  grind
theorem Uq{B:Int}(hB:0<B)(k:Nat):0<B^k:=fp hB
theorem axk{B:Int}(hB:0<B){l:List Int}(h:Can B l)(hl:l≠[]):B^(l.length -1)≤vz B l:=by
 obtain⟨m,x,rfl⟩:∃m x,l=m++[x]:=⟨_,_,(bQ hl).symm⟩;have hx:=h.2 hl;simp only[List.getLast_append,List.getLast_singleton]at hx;have h1:0≤vz B m:=Gu hB h.1.left;have h2:0≤x∧x<B:=h.1.right.head;rw[Mm];show B^((m++[x]).length -1)≤vz B m+B^m.length*(x+B*0);rw[ag,fO,Nat.add_sub_cancel];have h3:B^m.length*1≤B^m.length*x:=dF (by simp at hx;omega) (by have:=Uq hB m.length;omega)
 grind
theorem Xf{B:Int}(hB:0<B){l:List Int}(h:Can B l)(hl:l≠[]):0<vz B l:=by
 have:=axk hB h hl;have:=Uq hB (l.length -1);omega
theorem aqu{B:Int}(hB:0<B){l:List Int}(h:Can B l):vz B l=0↔l=[]:=by
 refine⟨fun h0=> ?_,fun h0=>by rw[h0];rfl⟩;apply Decidable.byContradiction;intro hl;have:=Xf hB h hl;omega
theorem Can.nil{B:Int}:Can B []:=⟨jl.nil,fun h=>absurd rfl h⟩
theorem Can.tail{B d:Int}{l:List Int}(h:Can B (d::l)):Can B l:=by
 refine⟨h.1.tail,fun hl=> ?_⟩;have:=h.2 (by simp);rw[List.getLast_cons hl]at this;exact this
theorem aqv{B:Int}(hB:1<B):∀{l m:List Int},Can B l→Can B m→vz B l=vz B m→l=m
 |[],m,_,hm,h=>((aqu (by omega) hm).1 (by rw[←h];rfl)).symm
 |d::l,[],hl,_,h=>(aqu (by omega) hl).1 (by rw[h];rfl)
 |d::l,e::m,hl,hm,h=>by
  have h1:=hl.1.head;have h2:=hm.1.head;have h:d+B*vz B l=e+B*vz B m:=h;have h3:d=e:=by
   have h4:(d+B*vz B l) % B=(e+B*vz B m) % B:=by rw[h]
   rw[Int.add_mul_emod_self_left,Int.add_mul_emod_self_left,Int.emod_eq_of_lt h1.1 h1.2,Int.emod_eq_of_lt h2.1 h2.2]at h4;exact h4
  subst h3;have h5:vz B l=vz B m:=by
   have:B*vz B l=B*vz B m:=by omega
   exact Int.eq_of_mul_eq_mul_left (by omega) this
  rw[aqv hB hl.tail hm.tail h5]
def yq:List Int→List Int
 |[]=>[]
 |d::l=>match yq l with
  |[]=>if d=0 then[]else[d]
  |e::m=>d::e::m
theorem M3:∀(l:List Int),yq (l++[0])=yq l
 |[]=>rfl
 |d::l=>by
  show(match yq (l++[0])with |[]=>if d=0 then[]else[d]|e::m=>d::e::m)=_;rw[M3 l];rfl
theorem M4{x:Int}(hx:x≠0):∀(l:List Int),yq (l++[x])=l++[x]
 |[]=>by show(if x=0 then[]else[x])=[x];rw[if_neg hx]
 |d::l=>by
  show(match yq (l++[x])with |[]=>if d=0 then[]else[d]|e::m=>d::e::m)=_;rw[M4 hx l]
  cases l<;>rfl
theorem DX{B:Int}:∀(l:List Int),vz B (yq l)=vz B l
 |[]=>rfl
 |d::l=>by
  have ih:=DX (B:=B) l;show vz B (match yq l with |[]=>if d=0 then[]else[d]|e::m=>d::e::m)=d+B*vz B l;rw[←ih]
  match hm:yq l with
  |[]=>
   simp only
   split
   ·rename_i h;rw[h];simp[vz]
   ·rfl
  |e::m=>rfl
theorem xV{B:Int}:∀{l:List Int},jl B l→Can B (yq l)
 |[],_=>Can.nil
 |d::l,h=>by
  have ih:=xV h.tail;show Can B (match yq l with |[]=>if d=0 then[]else[d]|e::m=>d::e::m)
  match hm:yq l with
  |[]=>
   simp only
   split
   ·exact Can.nil
   ·rename_i h0;exact⟨jl.cons h.head.1 h.head.2 jl.nil,fun _=>by simpa using h0⟩
  |e::m=>
   rw[hm]at ih;exact⟨jl.cons h.head.1 h.head.2 ih.1,fun _=>by rw[List.getLast_cons (by simp)];exact ih.2 (by simp)⟩
theorem Cb:∀(l:List Int),(yq l).length≤l.length
 |[]=>aA _
 |d::l=>by
  have ih:=Cb l;show(match yq l with |[]=>if d=0 then[]else[d]|e::m=>d::e::m).length≤l.length+1
  match hm:yq l with
  |[]=>simp only;split<;>simp
  |e::m=>rw[hm]at ih;simpa using ih
theorem awf{B:Int}{l:List Int}{i:Nat}(h:i<l.length):vz B (l.drop i)=l[i]+B*vz B (l.drop (i+1)):=by
 rw[bz h];rfl
theorem Ur{B:Int}{l:List Int}{i:Nat}(h:i<l.length):vz B (l.take (i+1))=vz B (l.take i)+B^i*l[i]:=by
 rw[dO,ah h,Option.toList_some,Mm];have:(l.take i).length=i:=by rw[aC];omega
 rw[this];show _+B^i*(l[i]+B*0)=_
 grind
theorem ahj{l:List Int}{i:Nat}{v:Int}(h:i<l.length):(l.set i v).drop i=v::l.drop (i+1):=by
 rw[bz (by simpa using h)];congr 1
 ·simp
 ·rw[List.drop_set_of_lt (by omega)]
theorem H7{B s:Int}(hB:0<B)(hs:0≤s):0≤s % B∧s % B<B∧0≤s/B∧s % B+B*(s/B)=s:=by
 have h1:=fw s (show B≠0 by omega);have h2:=dD s hB;have h3:=fv hs (show 0≤B by omega);have h4:=Int.emod_add_mul_ediv s B;exact⟨h1,h2,h3,h4⟩
theorem Gv{B o p q c:Int}(hB:0<B)(ho:0≤o∧o<B)(hp:0≤p∧p<B)(hq:0≤q∧q<B)(hc:0≤c∧c<B):
  0≤p*q∧0≤o+p*q+c∧o+p*q+c<B*B∧0≤(o+p*q+c)/B∧(o+p*q+c)/B<B:=by
 have h0:0≤p*q:=dq hp.1 hq.1;have h1:p*q≤(B -1)*(B -1):=dR (by omega) (by omega) hq.1 (by omega);have h2:o+p*q+c<B*B:=by grind
 refine⟨h0,by omega,h2,fv (by omega) (by omega),?_⟩;exact Int.ediv_lt_of_lt_mul hB (by omega)
theorem atK:∀(l:List Int),(yq l).reverse=l.reverse.dropWhile (fun d=>d==0):=by
 intro l;have key:∀(n:Nat) (l:List Int),l.length=n→(yq l).reverse=l.reverse.dropWhile (fun d=>d==0):=by
  intro n
  induction n with
  |zero=>intro l h;rw[List.length_eq_zero_iff.1 h];rfl
  |succ n ih=>
   intro l h;have hl:l≠[]:=by intro h0;rw[h0]at h;simp at h
   obtain⟨m,x,rfl⟩:∃m x,l=m++[x]:=⟨_,_,(bQ hl).symm⟩
   by_cases hx:x=0
   ·subst hx;rw[M3,ih m (by simpa using h)];simp
   ·rw[M4 hx];simp[hx]
 exact key _ l rfl
def Xg(l:List Int):List UInt8:=(l.map (fun d=>UInt8.ofNat (48+d.toNat))).reverse
def jR(v:Int):Nat:=if v≤0 then 0 else Nat.log2 v.toNat+1
theorem arE{v:Int}{b:Nat}(h1:2^b≤v)(h2:v<2^(b+1)):jR v=b+1:=by
 have h3:0<v:=by have:=Uq (show(0:Int)<2 by omega) b;omega
 obtain⟨w,rfl⟩:∃w:Nat,v=(w:Int):=⟨v.toNat,by omega⟩;unfold jR;rw[gG];have h4:2^b≤w:=by exact_mod_cast h1
 have h5:w<2^(b+1):=by exact_mod_cast h2
 have h6:Nat.log2 w=b:=(Nat.log2_eq_iff (by omega)).2 ⟨h4,h5⟩;simp[h6]
theorem abV{v:Int}:v<2^jR v:=by
 unfold jR
 split
 ·simp;omega
 ·obtain⟨w,rfl⟩:∃w:Nat,v=(w:Int):=⟨v.toNat,by omega⟩;have:=(Nat.log2_eq_iff (n:=w) (k:=Nat.log2 w) (by omega)).1 rfl;rw[ax]
  exact_mod_cast this.2
theorem H8{v:Int}{k:Nat}(h:v<2^k):jR v≤k:=by
 unfold jR
 split
 ·omega
 ·obtain⟨w,rfl⟩:∃w:Nat,v=(w:Int):=⟨v.toNat,by omega⟩;rw[ax];have h2:w<2^k:=by exact_mod_cast h
  exact(Nat.log2_lt (by omega)).2 h2
theorem awg{v:Int}(h:0<v):2^(jR v -1)≤v:=by
 unfold jR;rw[gG];obtain⟨w,rfl⟩:∃w:Nat,v=(w:Int):=⟨v.toNat,by omega⟩;have:=(Nat.log2_eq_iff (n:=w) (k:=Nat.log2 w) (by omega)).1 rfl;rw[ax,Nat.add_sub_cancel]
 exact_mod_cast this.1
theorem Ny{x:Int}(h1:0≤x:=by omega)(h2:x<18446744073709551616:=by omega):ap .u64 x=x:=by
 simp only[ap,b9,fW,Bool.false_and,cp,if_false];omega
theorem arF{x:Int}(h1:0≤x:=by omega)(h2:x<4294967296:=by omega):ap .u32 x=x:=by
 simp only[ap,b9,fW,Bool.false_and,cp,if_false];omega
theorem aqw{x:Int}:ap .u32 x=x % 4294967296:=by
 simp only[ap,b9,fW,Bool.false_and,cp,if_false];omega
theorem wu8{x:Int}(h1:0≤x:=by omega)(h2:x<256:=by omega):ap .u8 x=x:=by
 simp only[ap,b9,fW,Bool.false_and,cp,if_false];omega
theorem we{α:Type}{l:List α}{k:Nat}(h:k≤l.length:=by omega):slc l 0 (k:Int)=some (l.take k):=by
 unfold slc;rw[lK];simp
theorem anb{α:Type}{l:List α}{k:Nat}(h:k≤l.length:=by omega):slc l (k:Int) (l.length:Int)=some (l.drop k):=by
 unfold slc;rw[lK];simp
theorem gY{b:Nat}{n:Int}{m:Nat}(h:n=(m:Int):=by omega)(hm:m≤10000000000:=by omega)(hb:b≤1000:=by omega):Cl b n=some m:=by
 unfold Cl;have:m*b≤10000000000*1000:=bK hm hb;subst h;rw[if_pos (by simp only[ax];unfold room;omega)];simp
theorem Us{k:IntKind}{a:Int}{s:Nat}(hs:s≤k.bits):vm k a (s:Int)=some (a/2^s):=by
 unfold vm;rw[gG];have:min (s:Int).toNat k.bits=s:=by rw[ax];omega
 rw[this,Int.fdiv_eq_ediv_of_nonneg _ (Int.le_of_lt (fp (by decide)))]
theorem atL{a:Int}:vm .u64 a 32=some (a/4294967296):=by
 have:=Us (k:=.u64) (a:=a) (s:=32) (by decide);simpa using this
theorem Ut{n:Nat}{o:List Int}:∀(m k:Nat) (l:List Int),l.length=m→m<k→m≤1000000000→
  CU n k (l,(),(o,()),())=some (yq l,(),(o,()),())
 |0,k,l,hl,hk,hb=>by
  obtain⟨k,rfl⟩:=iY k;rw[List.length_eq_zero_iff.1 hl,LY];rfl
 |m+1,k,l,hl,hk,hb=>by
  obtain⟨k,rfl⟩:=iY k;obtain⟨l',x,rfl⟩:∃l' x,l=l'++[x]:=by
   have:l≠[]:=by intro h;rw[h]at hl;simp at hl
   exact⟨_,_,(bQ this).symm⟩
  have hl':l'.length=m:=by simpa using hl
  rw[LY];have e1:ap .i64 ((((l'++[x]).length:Nat):Int) -1)=(m:Int):=by rw[hl,aN];omega
  have e2:idx (l'++[x]) (m:Int)=some x:=by rw[bj (by omega)];simp[←hl']
  rw[e1,e2,af,if_pos (by rw[bF,hl];omega)];simp only[aa,af,beq_iff_eq]
  split
  ·rename_i h;subst h;rw[we];simp only[aa];rw[show(l'++[(0:Int)]).take m=l' by rw[←hl'];simp,M3];exact Ut m k l' hl' (by omega) (by omega)
  ·rename_i h;rw[M4 h]
theorem abW{n:Nat}{l:List Int}(h:l.length<n)(hb:l.length≤1000000000):vN n l=some (yq l,()):=by
 rw[ajJ,Ut _ n l rfl h hb];rfl
theorem QJ{v:Int}{s:Nat}(h:0<v/2^s):jR v=s+jR (v/2^s):=by
 obtain⟨w,hw⟩:∃w,w=v/2^s:=⟨_,rfl⟩;have hp:(0:Int)<2^s:=fp (by decide);rw[←hw]at h ⊢;have h1:=awg h;have h2:=abV (v:=w);have h3:jR w≠0:=by intro h0;rw[h0]at h2;simp at h2;omega
 obtain⟨b,hb⟩:∃b,jR w=b+1:=⟨jR w -1,by omega⟩;rw[hb]at h1 h2 ⊢;simp only[Nat.add_sub_cancel]at h1;have h4:=dU v (2^s);have h5:=fw v (show(2:Int)^s≠0 by omega);have h6:=dD v hp;rw[←hw]at h4;have h7:(2:Int)^s*2^b≤2^s*w:=dF h1 (by omega);have h8:(2:Int)^s*(w+1)≤2^s*2^(b+1):=dF (by omega) (by omega);rw[←Int.pow_add]at h7 h8;rw[Int.mul_add]at h8;exact arE (b:=s+b) (by omega) (by rw[show s+b+1=s+(b+1)from rfl];omega)
theorem atN:∃T:List UInt8,(∀(n:Nat) (a0:Int),lE n a0=(av (decide (a0≥(65536:Int)))
   (((vm IntKind.u32 a0 (16:Int))).bind fun v2=>some (v2,(16:Int)))
   (some (a0,(0:Int)))).bind fun v1=>
  (av (decide (v1.1≥(256:Int)))
   (((vm IntKind.u32 v1.1 (8:Int))).bind fun v4=>some (v4,(ap bw (v1.2+(8:Int)))))
   (some v1)).bind fun v3=>
  ((GJ T (ap IntKind.u8 v3.1))).bind fun v5=>
  some (ap bw (v3.2+(ap bw v5))))∧∀i:Fin 256,GJ T (i.val:Int)=some ((jR (i.val:Int):Nat):Int):=
 ⟨_,fun n a=>LZ n a,by decide+kernel⟩
theorem apk{n:Nat}{v:Int}(h1:0≤v)(h2:v<4294967296):lE n v=some ((jR v:Nat):Int):=by
 obtain⟨T,hT,ht⟩:=atN;have ht2:∀w:Int,0≤w→w<256→GJ T w=some ((jR w:Nat):Int):=by
  intro w a b;have:=ht ⟨w.toNat,by omega⟩;rw[show(w.toNat:Int)=w by omega]at this;exact this
 have hb8:∀w:Int,w<256→jR w≤8:=fun w hw=>H8 (by simpa using hw);have s16:vm .u32 v 16=some (v/65536):=by simpa using Us (k:=.u32) (a:=v) (s:=16) (by decide)
 have s8:∀w:Int,vm .u32 w 8=some (w/256):=fun w=>by simpa using Us (k:=.u32) (a:=w) (s:=8) (by decide)
 have f8:∀w:Int,256≤w→jR w=8+jR (w/256):=fun w hw=>by simpa using QJ (v:=w) (s:=8) (by simp;omega)
 have f16:∀w:Int,65536≤w→jR w=16+jR (w/65536):=fun w hw=>by simpa using QJ (v:=w) (s:=16) (by simp;omega)
 have tail:∀(w a:Int),0≤w→w<65536→0≤a→a≤16→((av (decide (w≥(256:Int)))
    (((vm IntKind.u32 w (8:Int))).bind fun v4=>some (v4,(ap bw (a+(8:Int)))))
    (some (w,a))).bind fun v3=>
  ((GJ T (ap IntKind.u8 v3.1))).bind fun v5=>
  some (ap bw (v3.2+(ap bw v5))))=some (a+((jR w:Nat):Int)):=by
  intro w a hw1 hw2 ha1 ha2;rw[s8];simp only[aa,af,bF]
  split
  ·rename_i h;have e1:=hb8 (w/256) (by omega);simp only[aa];rw[wu8,ht2 _ (by omega) (by omega),f8 w h];simp only[aa];rw[aN (x:=a+8),aN (x:=((jR (w/256):Nat):Int)),aN];congr 1;omega
  ·have e1:=hb8 w (by omega);simp only[aa];rw[wu8,ht2 _ (by omega) (by omega)];simp only[aa];rw[aN (x:=((jR w:Nat):Int)),aN]
 rw[hT,s16,af]
 split
 ·rename_i h;rw[bF]at h;simp only[aa];rw[tail _ _ (by omega) (by omega) (by omega) (by omega),f16 v h];congr 1
 ·rename_i h;rw[bF]at h;simp only[aa];rw[tail _ _ (by omega) (by omega) (by omega) (by omega),Int.zero_add]
theorem akS(k:Nat):(4294967296:Int)^k=2^(32*k):=by
 rw[Int.pow_mul];rfl
theorem Uu{n:Nat}{x:List Int}(hx:Can 4294967296 x)(hb:x.length≤1000000000):kC n (x,())=some ((jR (vz 4294967296 x):Nat):Int):=by
 rw[Tu];simp only[af,beq_iff_eq]
 split
 ·rename_i h;have:x=[]:=List.length_eq_zero_iff.1 (by omega);subst this;rfl
 ·rename_i h;obtain⟨m,t,rfl⟩:∃m t,x=m++[t]:=by
   have:x≠[]:=by intro h0;rw[h0]at h;simp at h
   exact⟨_,_,(bQ this).symm⟩
  have ht:0≤t∧t<4294967296:=hx.1.right.head;have ht0:t≠0:=by have:=hx.2 (by simp);simpa using this
  have hl:(m++[t]).length=m.length+1:=by simp
  rw[hl]at hb h ⊢;rw[aN (x:=((m.length+1:Nat):Int) -1)];have e2:idx (m++[t]) (((m.length+1:Nat):Int) -1)=some t:=by
   rw[show((m.length+1:Nat):Int) -1=(m.length:Int)by omega,bj (by simp)];simp
  rw[e2];simp only[aa];rw[apk ht.1 ht.2];simp only[aa];have hv:vz 4294967296 (m++[t])/2^(32*m.length)=t:=by
   rw[Mm,←akS];show(vz 4294967296 m+(4294967296:Int)^m.length*(t+4294967296*0))/(4294967296:Int)^m.length=t;rw[Int.mul_zero,Int.add_zero,Int.add_mul_ediv_left _ _ (by have:=Uq (show(0:Int)<4294967296 by decide) m.length;omega),
    Int.ediv_eq_zero_of_lt (Gu (by decide) hx.1.left) (aqt (by decide) hx.1.left)]
   omega
  have hs:=QJ (v:=vz 4294967296 (m++[t])) (s:=32*m.length) (by rw[hv];omega);rw[hv]at hs;have hlt:jR t≤32:=H8 (by simpa using ht.2);rw[hs];rw[aN (x:=32*(((m.length+1:Nat):Int) -1)),aN];congr 1;omega
theorem atO{n:Nat}(hn:2<n){v:Int}(h1:0≤v)(h2:v<18446744073709551616):∃x,KU n v=some (x,())∧Can 4294967296 x∧vz 4294967296 x=v∧x.length≤2:=by
 rw[amg,atL];simp only[aa];rw[aqw,arF (x:=v/4294967296),abW (by simpa using hn) (by simp)];refine⟨_,rfl,xV (jl.cons (by omega) (by omega) (jl.cons (by omega) (by omega) jl.nil)),?_,Cb _⟩;rw[DX];show v % 4294967296+4294967296*(v/4294967296+4294967296*0)=v;omega
theorem anc{n:Nat}{x:List Int}(hx:Can 4294967296 x)(hb:x.length≤1000000000):wE n (x,())=some (if jR (vz 4294967296 x)≤65536 then((x,()),0)else(([],()),41)):=by
 rw[Wq,Uu hx hb];simp only[aa,af,bF]
 split
 ·rw[gG]
 ·rw[lK]
structure Row (B:Int) (px out:List Int) (p c:Int) (y:List Int) (i j:Nat):Prop where
 len:out.length=px.length
 dig:jl B out
 cr:0≤c∧c<B
 val:vz B out+c*B^(i+j)=vz B px+p*vz B (y.take j)*B^i
 hi:∀(k:Nat) (h:k<out.length),i+j≤k→out[k]=px[k]'(by omega)
theorem Row.step{B:Int}(hB:0<B){px out:List Int}{p c q:Int}{y:List Int}{i j:Nat}(h:Row B px out p c y i j)(hp:0≤p∧p<B)(hq:0≤q∧q<B)
  (hv:vz B (y.take (j+1))=vz B (y.take j)+B^j*q) (hi:i+j<out.length):
  Row B px (out.set (i+j) ((out[i+j]+p*q+c) % B)) p ((out[i+j]+p*q+c)/B) y i (j+1):=by
 have ho:=h.dig.at hi;have hm:=Gv hB ho hp hq h.cr;have hd:=H7 hB (s:=out[i+j]+p*q+c) hm.2.1;refine⟨by rw[aP];exact h.len,h.dig.set hd.1 hd.2.1,⟨hm.2.2.2.1,hm.2.2.2.2⟩,?_,?_⟩
 ·rw[Xe hi,hv];have h4:=h.val;have e1:B^(i+(j+1))=B^(i+j)*B:=dP B (i+j);have e2:B^(i+j)=B^i*B^j:=Int.pow_add B i j;obtain⟨o,ho'⟩:∃o,o=out[i+j]:=⟨_,rfl⟩;rw[←ho']at hd ⊢;obtain⟨r,hr⟩:∃r,r=(o+p*q+c) % B:=⟨_,rfl⟩;obtain⟨d,hd'⟩:∃d,d=(o+p*q+c)/B:=⟨_,rfl⟩;rw[←hr,←hd']at hd ⊢;have h5:=hd.2.2.2;rw[e1];have e3:p*(vz B (y.take j)+B^j*q)*B^i=p*vz B (y.take j)*B^i+p*q*B^(i+j):=by rw[e2];grind
  rw[e3];have e4:d*(B^(i+j)*B)=(o+p*q+c -r)*B^(i+j):=by rw[←h5];grind
  rw[e4]
  grind
 ·intro k hk hik;rw[List.getElem_set_ne (by omega)];exact h.hi k (by simpa using hk) (by omega)
theorem Row.start{B:Int}(hB:0<B){px:List Int}{p:Int}{y:List Int}{i:Nat}(h:jl B px):Row B px px p 0 y i 0:=by
 refine⟨rfl,h,⟨by omega,hB⟩,?_,fun _ _ _=>rfl⟩;simp[vz]
theorem aBC{p q o c:Int}(ho:0≤o∧o<4294967296)(hp:0≤p∧p<4294967296)(hq:0≤q∧q<4294967296)(hc:0≤c∧c<4294967296):
  ap .u64 (c+ap .u64 (ap .u64 (ap .u64 p*ap .u64 q)+ap .u64 o))=o+p*q+c:=by
 have hm:=Gv (B:=4294967296) (by omega) ho hp hq hc;rw[Ny (x:=p),Ny (x:=q),Ny (x:=o)];rw[Ny (x:=p*q),Ny (x:=p*q+o),Ny];omega
theorem YA{n:Nat}{p:Int}{xs y o2 px:List Int}{i:Nat}{z1 z2:Int}(hp:0≤p∧p<4294967296)(hy:jl 4294967296 y)(hl:i+y.length<px.length)(hb:px.length≤1000000000):
  ∀(m k j:Nat) (c:Int) (out:List Int),j+m=y.length→m<k→Row 4294967296 px out p c y i j→
  ∃c' out',rD n k ((),(),(),(i:Int),p,c,xs,z1,z2,y,(y.length:Int),(j:Int),(y,()),(o2,()),out,())=
   some ((),(),(),(i:Int),c',xs,z1,z2,(y,()),(o2,()),out',())∧Row 4294967296 px out' p c' y i y.length
 |0,k,j,c,out,h1,h2,h=>by
  obtain⟨k,rfl⟩:=iY k;have:j=y.length:=by omega
  subst this;rw[Bu,sS];exact⟨c,out,rfl,h⟩
 |m+1,k,j,c,out,h1,h2,h=>by
  obtain⟨k,rfl⟩:=iY k;have hj:j<y.length:=by omega
  have hlo:i+j<out.length:=by rw[h.len];omega
  have hlb:out.length≤1000000000:=by rw[h.len];exact hb
  have hq:=hy.at hj;have ho:=h.dig.at hlo;have hs:=h.step (by omega) hp hq (Ur hj) hlo;have hm:=Gv (B:=4294967296) (by omega) ho hp hq h.cr;rw[Bu,jK,bj hj];simp only[aa];rw[aN (x:=(i:Int)+(j:Int)),show(i:Int)+(j:Int)=((i+j:Nat):Int)by omega,ej hlo];simp only[aa];rw[ah hlo];simp only[aa];rw[aBC ho hp hq h.cr,atL];simp only[aa];rw[aN (x:=(j:Int)+1),aqw,show(j:Int)+1=((j+1:Nat):Int)by omega];exact YA hp hy hl hb m k (j+1) _ _ (by omega) (by omega) hs
theorem Uv{n:Nat}{x y o2:List Int}(hx:jl 4294967296 x)(hy:jl 4294967296 y)(hb:x.length+y.length≤1000000000)(hn:2000000000≤n):
  ∀(m k i:Nat) (out:List Int),i+m=x.length→m<k→out.length=x.length+y.length→jl 4294967296 out→
   vz 4294967296 out=vz 4294967296 (x.take i)*vz 4294967296 y→(∀(k:Nat) (h:k<out.length),i+y.length≤k→out[k]=0)→
  ∃out',rC n k ((),(),(),x,(x.length:Int),(i:Int),(y,()),(o2,()),out,())=some ((),(),(o2,()),out',())∧
   out'.length=x.length+y.length∧jl 4294967296 out'∧vz 4294967296 out'=vz 4294967296 x*vz 4294967296 y
 |0,k,i,out,h1,h2,h3,h4,h5,h6=>by
  obtain⟨k,rfl⟩:=iY k;rw[Bt,sS];refine⟨out,rfl,h3,h4,?_⟩;rw[h5,bA (by omega)]
 |m+1,k,i,out,h1,h2,h3,h4,h5,h6=>by
  obtain⟨k,rfl⟩:=iY k;have hi:i<x.length:=by omega
  have hp:=hx.at hi;rw[Bt,jK,bj hi];simp only[aa];obtain⟨c,out',he,hr⟩:=YA (n:=n) (p:=x[i]) (xs:=x) (y:=y) (o2:=o2) (px:=out) (i:=i) (z1:=(x.length:Int)) (z2:=(i:Int)) hp hy (by omega) (by omega) y.length n 0 0 out (by omega) (by omega) (Row.start (by omega) h4);rw[show((0:Nat):Int)=0 from rfl]at he;rw[he];simp only[aa];have hlo:i+y.length<out'.length:=by rw[hr.len];omega
  have hl':out'.length=x.length+y.length:=by rw[hr.len];exact h3
  rw[aN (x:=(i:Int)+(y.length:Int)),show(i:Int)+(y.length:Int)=((i+y.length:Nat):Int)by omega,ej hlo];simp only[aa];rw[ah hlo];simp only[aa];rw[aN (x:=(i:Int)+1),show(i:Int)+1=((i+1:Nat):Int)by omega,aqw,Int.emod_eq_of_lt hr.cr.1 hr.cr.2];have h0:out'[i+y.length]=0:=by rw[hr.hi _ hlo (aA _)];exact h6 _ _ (aA _)
  refine Uv hx hy hb hn m k (i+1) _ (by omega) (by omega) (by rw[aP];exact hl') (hr.dig.set hr.cr.1 hr.cr.2) ?_ ?_
  ·rw[Xe hlo,h0,Ur hi];have hv:=hr.val;rw[bA (aA y.length),h5]at hv;rw[Int.sub_zero,hv]
   grind
  ·intro q hq hle;rw[List.getElem_set_ne (by omega)];have Nt:q<out'.length:=by simpa using hq
   rw[hr.hi q Nt (by omega)];exact h6 _ _ (by omega)
def axl(v:Int):Prop:=jR v≤65536
instance (v:Int):Decidable (axl v):=by unfold axl;exact inferInstance
theorem awh{n:Nat}{x y:List Int}(hx:Can 4294967296 x)(hy:Can 4294967296 y)(hb:x.length+y.length≤1000000)(hn:2000000000≤n)
  (hf:jR (vz 4294967296 x)+jR (vz 4294967296 y)≤65536):
  ∃z,wG n ((x,()),(y,()))=some ((z,()),0)∧Can 4294967296 z∧vz 4294967296 z=vz 4294967296 x*vz 4294967296 y∧z.length≤x.length+y.length:=by
 rw[Wr,Uu hx (by omega)];simp only[aa];rw[Uu hy (by omega)];simp only[aa];rw[aN (x:=(((jR (vz 4294967296 x):Nat):Int)+((jR (vz 4294967296 y):Nat):Int))) (by omega) (by omega),sS];rw[aN,gY (m:=x.length+y.length) (by omega) (by omega) (by omega)];simp only[aa];obtain⟨out,he,h1,h2,h3⟩:=Uv (n:=n) (o2:=[]) hx.1 hy.1 (by omega) hn x.length n 0 (ao (x.length+y.length) 0) (by omega) (by omega) (by simp) (jl.rep (by omega) _) (by rw[akR];simp[vz]) (by intro k h _;simp);rw[show((0:Nat):Int)=0 from rfl]at he;rw[he];simp only[aa];rw[abW (by omega) (by omega)];simp only[aa];have hc:=xV h2;have hlen:=Cb out;have hval:vz 4294967296 (yq out)=vz 4294967296 x*vz 4294967296 y:=by rw[DX,h3]
 rw[anc hc (by omega)];have hbl:jR (vz 4294967296 (yq out))≤65536:=by
  rw[hval];have a1:=abV (v:=vz 4294967296 x);have a2:=abV (v:=vz 4294967296 y);have b1:=Gu (B:=4294967296) (by omega) hx.1;have b2:=Gu (B:=4294967296) (by omega) hy.1;refine eA (H8 (k:=jR (vz 4294967296 x)+jR (vz 4294967296 y)) ?_) hf;rw[Int.pow_add];exact Int.mul_lt_mul' (Int.le_of_lt a1) a2 b2 (fp (by decide))
 rw[if_pos hbl];exact⟨_,rfl,hc,hval,by omega⟩
end Go.Am.Pu
