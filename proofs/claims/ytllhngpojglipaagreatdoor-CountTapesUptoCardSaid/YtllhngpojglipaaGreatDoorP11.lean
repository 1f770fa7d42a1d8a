import Derived.Test.YtllhngpojglipaaGreatDoorP6
import Derived.Test.YtllhngpojglipaaGreatDoorP9
set_option linter.unusedVariables false
set_option linter.unusedSimpArgs false
open Bool renaming and_eq_true→aj,not_eq_true'→aW,not_eq_true→eK,or_eq_true→aB
open Int renaming mul_le_mul→dR,mul_nonneg→dq,pow_succ→dP,toNat_natCast→ax
open Go.IntKind renaming bits→b9
open List renaming append_assoc→bn,getD_eq_getElem?_getD→aG,getElem?_append_left→aQ,getElem?_append_right→bh,getElem?_eq_getElem→ah,getElem_mem→ak,getElem_of_mem→aL,length_take→aC,take_add_one→dO,take_length→ch
open Nat renaming le_mul_of_pos_right→cB,le_refl→aA,mul_le_mul→bK
open Option renaming bind_some→aa
namespace Go.Am.Pu
open Go Go.Am
structure ay8 (D Hd:Nat) (b:GI) (a c:Int):Prop where
 a0:0≤a
 a1:a≤4194304
 c0:0≤c
 c1:c≤4194304
 o:∀j,j<D→(cq (127*gI (eU b.2.2.2.2.1 D j)) b.2.2.2.2.2.2.2.2.2.1).1≤a
 d:∀j,j<D→(cq (127*gI (eU b.2.2.2.2.2.2.2.2.2.2.2.2.2.1 Hd j)) b.2.2.2.2.2.2.2.2.2.2.2.2.2.2.2.2).1≤c
structure Rch (D Hd:Nat) (bs:List GI) (f:Int) (i:Nat) (l:List Int):Prop where
 len:l.length=2*i+1
 f0:l.getD 0 0=f
 top:0≤l.getD (2*i) 0∧l.getD (2*i) 0≤2147483648+(i:Int)*8388608
 st:∀j (hj:j<bs.length),j<i→∃a c,ay8 D Hd bs[j] a c∧l.getD (2*j+1) 0=l.getD (2*j) 0+a∧l.getD (2*j+2) 0=l.getD (2*j+1) 0+c
theorem Gy{l m:List Int}{i:Nat}(h:i<l.length):(l++m).getD i 0=l.getD i 0:=by
 rw[aG,aG,aQ h]
theorem arJ{l:List Int}{x y:Int}:(l++[x,y]).getD l.length 0=x∧(l++[x,y]).getD (l.length+1) 0=y:=by
 rw[aG,aG,bh (by omega),bh (by omega)];simp
theorem Rch.step{D Hd:Nat}{bs:List GI}{f:Int}{i:Nat}{l:List Int}(h:Rch D Hd bs f i l)(hi:i<bs.length){a c:Int}(ha:ay8 D Hd bs[i] a c):Rch D Hd bs f (i+1) (l++[l.getD (2*i) 0+a,l.getD (2*i) 0+a+c]):=by
 have hl:=h.len;obtain⟨g1,g2⟩:=arJ (l:=l) (x:=l.getD (2*i) 0+a) (y:=l.getD (2*i) 0+a+c);rw[hl]at g1 g2;have h1:=ha.a0;have h2:=ha.a1;have h3:=ha.c0;have h4:=ha.c1;have h5:=h.top;refine⟨by simp;omega,by rw[Gy (by omega)];exact h.f0,?_,?_⟩
 ·rw[show 2*(i+1)=2*i+1+1 by omega,g2];omega
 ·intro j hj hji
  by_cases hij:j=i
  ·subst hij;refine⟨a,c,ha,?_,?_⟩
   ·rw[g1,Gy (by omega)]
   ·rw[show 2*j+2=2*j+1+1 by omega,g2,g1]
  ·obtain⟨a',c',k1,k2,k3⟩:=h.st j hj (by omega);refine⟨a',c',k1,?_,?_⟩
   ·rw[Gy (by omega),Gy (by omega)];exact k2
   ·rw[Gy (by omega),Gy (by omega)];exact k3
theorem atX(i:Nat):(2:Int)^(i+1)=2^i*2:=dP 2 i
def JP(f:Nat→Int):Nat→Int
 |0=>0
 |k+1=>imax (JP f k) (f k)
theorem H9{x y:Int}:imax x y=if y>x then y else x:=rfl
theorem abX{f:Nat→Int}:∀{k j:Nat},j<k→f j≤JP f k
 |k+1,j,h=>by
  show f j≤imax (JP f k) (f k);rw[H9]
  by_cases hj:j=k
  ·subst hj;split<;>omega
  ·have:=abX (f:=f) (k:=k) (j:=j) (by omega)
   split<;>omega
theorem Uy{f:Nat→Int}{b:Int}(hb:0≤b):∀{k:Nat},(∀j,j<k→f j≤b)→0≤JP f k∧JP f k≤b
 |0,_=>⟨Int.le_refl 0,hb⟩
 |k+1,h=>by
  have h1:=Uy hb (k:=k) fun j hj=>h j (by omega);have h2:=h k (by omega);show 0≤imax (JP f k) (f k)∧_;show _∧imax (JP f k) (f k)≤b;rw[H9]
  split<;>omega
def Gz(w:List Int)(c r:Nat)(s:Int):Int:=JP (fun j=>(cq (127*gI (eU w c j)) s).1) r
theorem Uz{w:List Int}{r c:Nat}{s:Int}(hw:w.length=r*c)(hc:1≤c)(Nf:c≤256)(h8:bc w)(hs:0≤s)(hs2:s≤31):
  (∀j,j<r→0≤127*gI (eU w c j)∧127*gI (eU w c j)≤4194304∧(cq (127*gI (eU w c j)) s).1≤4194304)∧0≤Gz w c r s∧Gz w c r s≤4194304:=by
 have hm:w.length % c=0:=by rw[hw];exact Nat.mul_mod_left _ _
 have hd:w.length/c=r:=by rw[hw];exact Nat.mul_div_cancel _ (by omega)
 have key:∀j,j<r→0≤127*gI (eU w c j)∧127*gI (eU w c j)≤4194304∧(cq (127*gI (eU w c j)) s).1≤4194304:=by
  intro j hj;have hjw:j<w.length/c:=by rw[hd];exact hj
  have hrl:=uJ hm hjw;have hsz:=aiq (l:=eU w c j) (h8.sub _ _);rw[hrl]at hsz;have hrb:=am0 (x:=127*gI (eU w c j)) (s:=s) (by omega) hs (by omega);exact⟨by omega,by omega,by omega⟩
 exact⟨key,Uy (by omega) fun j hj=>(key j hj).2.2⟩
theorem afc{n:Nat}{w:List Int}{r c:Nat}{s:Int}(hw:w.length=r*c)(hb:r*c≤1048576)(hc:1≤c)(Nf:c≤256)(h8:bc w)(hs:0≤s)(hs2:s≤31)(hn:2000000000≤n):
  nM n (w,(c:Int),s)=some (Gz w c r s):=by
 have hr:r≤1048576:=by
  have:=cB r (show 0<c by omega);omega
 obtain⟨key,-⟩:=Uz hw hc Nf h8 hs hs2;rw[aaO,am6 hw hb hc h8 hn];simp only[aa];have hl:=aX (L:=fun k j a=>kE n k (s,a,dX (fun j=>gI (eU w c j)) r,(((dX (fun j=>gI (eU w c j)) r).length:Nat):Int),j,())) (len:=r) (r:=(Gz w c r s,())) (fun i=>Gz w c i s) (by
  intro k j hj;have hk:=key j hj;show kE n (k+1) _=_;rw[Dt,af,if_pos (by rw[bF];simp;omega),bm (by simp;exact hj) 0,pW _ hj];simp only[aa,af,bF];rw[aN (x:=127*gI (eU w c j)),pU (by omega) (by omega) (by omega)];simp only[aa];show _=kE n k (s,imax (Gz w c j s) (cq (127*gI (eU w c j)) s).1,_);rw[H9]
  split
  ·simp only[aa];rw[aN]
  ·simp only[aa];rw[aN]) (by
  intro k;show kE n (k+1) _=_;rw[Dt,af,if_neg (by simp)]) n (by omega)
 rw[show Gz w c 0 s=0 from rfl]at hl;rw[hl];rfl
theorem atY{s x:Int}(h1:0≤s)(h2:s≤1000000000)(h3: -128≤x)(h4:x≤127):acR s x=s+jm x:=by
 unfold acR jm;rw[aN (x:=x),aN (x:=0 -x),H9]
 split
 ·rw[lK,aN];omega
 ·rw[aN]
  split<;>omega
theorem atZ{l:List Int}(h:bc l)(hl:l.length≤1048576):Fc l=gI l:=by
 have key:∀i,i≤l.length→(l.take i).foldl acR 0=gH (fun i=>jm (l.getD i 0)) i:=by
  intro i
  induction i with
  |zero=>intro _;rfl
  |succ i ih=>
   intro hi;have h1:=h.at i;have h2:=aBx h i;rw[dO,ah (by omega),Option.toList_some,List.foldl_append,ih (by omega)];show acR _ l[i]=_;have hg:l.getD i 0=l[i]'(by omega):=by simp[show i<l.length by omega]
   rw[hg]at h1;rw[atY (by omega) (by omega) h1.1 h1.2];show _=gH (fun i=>jm (l.getD i 0)) i+jm (l.getD i 0);rw[hg]
 have:=key l.length (aA _);rw[ch]at this;exact this
theorem arK{n:Nat}{w:List Int}{r c:Nat}(hw:w.length=r*c)(hb:r*c≤1048576)(hc:1≤c)(Nf:c≤256)(h8:bc w):Kg n (w,(c:Int))=some (dX (fun j=>gI (eU w c j)) r,0):=by
 have hm:w.length % c=0:=by rw[hw];exact Nat.mul_mod_left _ _
 have hd:w.length/c=r:=by rw[hw];exact Nat.mul_div_cancel _ (by omega)
 have ay1:JO w (c:Int)=0:=by
  unfold JO;rw[gG,gG]
 have hr:r≤1048576:=by
  have:=cB r (show 0<c by omega);omega
 show PQ (lA n) (w,(c:Int))=_;unfold PQ;simp only;rw[QA,ay1];simp only[aa,af];rw[if_neg (by simp),if_pos (by simp;omega),ax];congr 2;unfold chunks;rw[aqk hc hm,hd];show(dX (fun j=>eU w c j) r).map Fc=_;unfold dX;rw[List.map_map];refine List.map_congr_left fun j hj=> ?_;have hj:j<r:=List.mem_range.1 hj;have hrl:=uJ hm (show j<w.length/c by rw[hd];exact hj);exact atZ (h8.sub _ _) (by show(eU w c j).length≤_;omega)
theorem afd{n:Nat}{w:List Int}{r c:Nat}{s:Int}(hw:w.length=r*c)(hb:r*c≤1048576)(hc:1≤c)(Nf:c≤256)(h8:bc w)(hs:0≤s)(hs2:s≤31)(hn:2000000000≤n):
  nE n (w,(c:Int),s)=some (Gz w c r s):=by
 have hr:r≤1048576:=by
  have:=cB r (show 0<c by omega);omega
 obtain⟨key,-⟩:=Uz hw hc Nf h8 hs hs2;rw[aan,arK hw hb hc Nf h8];simp only[aa];have hl:=aX (L:=fun k j a=>mB n k (s,a,dX (fun j=>gI (eU w c j)) r,(((dX (fun j=>gI (eU w c j)) r).length:Nat):Int),j,())) (len:=r) (r:=(Gz w c r s,())) (fun i=>Gz w c i s) (by
  intro k j hj;have hk:=key j hj;show mB n (k+1) _=_;rw[Df,af,if_pos (by rw[bF];simp;omega),bm (by simp;exact hj) 0,pW _ hj];simp only[aa];rw[aN (x:=127*gI (eU w c j)),nA (by omega) (by omega)];simp only[aa];rw[aN];rfl) (by
  intro k;show mB n (k+1) _=_;rw[Df,af,if_neg (by simp)]) n (by omega)
 rw[show Gz w c 0 s=0 from rfl]at hl;rw[hl];rfl
def iC(e:List Int):Int:=JP (fun j=>jm (e.getD j 0)) e.length
def awo(D:Nat)(b:GI):Int:=Gz b.2.2.2.2.1 D D b.2.2.2.2.2.2.2.2.2.1
def ay9(D Hd:Nat)(b:GI):Int:=Gz b.2.2.2.2.2.2.2.2.2.2.2.2.2.1 Hd D b.2.2.2.2.2.2.2.2.2.2.2.2.2.2.2.2
def Nz(D Hd:Nat)(bs:List GI)(f:Int):Nat→List Int
 |0=>[f]
 |i+1=>match bs[i]? with
  |some b=>Nz D Hd bs f i++[(Nz D Hd bs f i).getD (2*i) 0+awo D b,(Nz D Hd bs f i).getD (2*i) 0+awo D b+ay9 D Hd b]
  |none=>Nz D Hd bs f i
def qD(m:Mod):List Int:=Nz m.1.2.2.1.toNat m.1.2.2.2.2.2.toNat m.2.2.2.2.2.2.1 (iC m.2.2.1*2^m.2.2.2.1.toNat) m.2.2.2.2.2.2.1.length
theorem aqA{D Hd:Nat}{b:GI}(hb:Jw D Hd b)(h8:OkB b)(hD:1≤D)(hD2:D≤64)(hH:1≤Hd)(hH2:Hd≤256):ay8 D Hd b (awo D b) (ay9 D Hd b):=by
 have h1:=Uz (w:=b.2.2.2.2.1) (r:=D) (c:=D) (s:=b.2.2.2.2.2.2.2.2.2.1) hb.o hD (by omega) h8.o hb.os.1 hb.os.2;have h2:=Uz (w:=b.2.2.2.2.2.2.2.2.2.2.2.2.2.1) (r:=D) (c:=Hd) (s:=b.2.2.2.2.2.2.2.2.2.2.2.2.2.2.2.2) hb.m3 hH hH2 h8.m3 hb.ds.1 hb.ds.2;exact⟨h1.2.1,h1.2.2,h2.2.1,h2.2.2,fun j hj=>abX (f:=fun j=>(cq (127*gI (eU b.2.2.2.2.1 D j)) b.2.2.2.2.2.2.2.2.2.1).1) hj,fun j hj=>abX (f:=fun j=>(cq (127*gI (eU b.2.2.2.2.2.2.2.2.2.2.2.2.2.1 Hd j)) b.2.2.2.2.2.2.2.2.2.2.2.2.2.2.2.2).1) hj⟩
theorem at0{D Hd:Nat}{bs:List GI}{f:Int}(hD:1≤D)(hD2:D≤64)(hH:1≤Hd)(hH2:Hd≤256)(hb:∀b∈bs,Jw D Hd b)(h8:∀b∈bs,OkB b)(hf:0≤f∧f≤2147483648):∀i,i≤bs.length→Rch D Hd bs f i (Nz D Hd bs f i)
 |0,_=>⟨rfl,rfl,by show 0≤f∧f≤_;omega,fun j hj h=>by omega⟩
 |i+1,hi=>by
  have h:=at0 hD hD2 hH hH2 hb h8 hf i (by omega);have hm:=ak (show i<bs.length by omega);show Rch D Hd bs f (i+1) (match bs[i]? with |some b=>_ |none=>_);rw[ah (show i<bs.length by omega)];exact h.step (by omega) (aqA (hb _ hm) (h8 _ hm) hD hD2 hH hH2)
theorem GA{e:List Int}(h:bc e):0≤iC e∧iC e≤128∧∀x∈e,-iC e≤x∧x≤iC e:=by
 have h1:=Uy (f:=fun j=>jm (e.getD j 0)) (b:=128) (by omega) (k:=e.length) (fun j _=>by
  have:=h.at j;show jm (e.getD j 0)≤128;unfold jm;split<;>omega)
 refine⟨h1.1,h1.2,fun x hx=> ?_⟩;obtain⟨j,hj,rfl⟩:=aL hx;have h2:jm (e.getD j 0)≤iC e:=abX (f:=fun j=>jm (e.getD j 0)) hj;rw[aT hj]at h2;have:=am1 e[j];omega
theorem M5{f:Int}(h1:0≤f)(h2:f≤128){i:Nat}(hi:i≤24):0≤f*2^i∧f*2^i≤2147483648:=by
 have hp:=rV (s:=i) (by omega);have hp2:(2:Int)^i≤16777216:=by
  have:(2:Nat)^i≤2^24:=Nat.pow_le_pow_right (by omega) hi;have h:((2^i:Nat):Int)≤((2^24:Nat):Int):=by exact_mod_cast this
  simpa using h
 have h5:=dq h1 (show(0:Int)≤2^i by omega);have h6:=dR h2 hp2 (by omega) (by omega);omega
theorem fk{l:List Int}{i:Nat}(h:i<l.length):idx l (i:Int)=some (l.getD i 0):=bm h 0
structure yr (m:Mod) (D H half C Hd V L:Nat) (E:Nat):Prop where
 lm:ahh m
 ok:MOk m D H half C Hd V L
 e8:bc m.2.2.1
 b8:∀b∈m.2.2.2.2.2.2.1,OkB b
 es:m.2.2.2.1=(E:Int)
 el:E≤24
theorem yr.rch{m:Mod}{D H half C Hd V L E:Nat}(h:yr m D H half C Hd V L E){i:Nat}(hi:i≤m.2.2.2.2.2.2.1.length):
  Rch D Hd m.2.2.2.2.2.2.1 (iC m.2.2.1*2^E) i (Nz D Hd m.2.2.2.2.2.2.1 (iC m.2.2.1*2^E) i):=by
 have g1:=h.ok.uX.dm;have g2:=h.ok.uX.hm;have g3:=h.ok.uX.pos;have g4:=h.ok.uX.hd;have hf:=GA h.e8;exact at0 (by omega) g1 g4 g2 h.ok.b h.b8 (M5 hf.1 hf.2.1 h.el) i hi
theorem yr.eq{m:Mod}{D H half C Hd V L E:Nat}(h:yr m D H half C Hd V L E):qD m=Nz D Hd m.2.2.2.2.2.2.1 (iC m.2.2.1*2^E) m.2.2.2.2.2.2.1.length:=by
 unfold qD;rw[h.ok.d,h.ok.hd,h.es];simp
theorem yr.aBL{m:Mod}{D H half C Hd V L E:Nat}(h:yr m D H half C Hd V L E){j:Nat}(hj:j<m.2.2.2.2.2.2.1.length):
  ∃l t a d,l=Nz D Hd m.2.2.2.2.2.2.1 (iC m.2.2.1*2^E) j∧l.length=2*j+1∧t=l.getD (2*j) 0∧0≤t∧t≤3000000000∧a=awo D m.2.2.2.2.2.2.1[j]∧d=ay9 D Hd m.2.2.2.2.2.2.1[j]∧0≤a∧a≤4194304∧0≤d∧d≤4194304∧
   Nz D Hd m.2.2.2.2.2.2.1 (iC m.2.2.1*2^E) (j+1)=l++[t+a,t+a+d]:=by
 have hr:=h.rch (i:=j) (by omega);have hbs:=h.ok.bs;have hl8:=h.ok.l8;have aD7:=hr.top;have g1:=h.ok.uX.dm;have g2:=h.ok.uX.hm;have g3:=h.ok.uX.pos;have g4:=h.ok.uX.hd;have hm:=ak hj;have ha:=aqA (h.ok.b _ hm) (h.b8 _ hm) (by omega) g1 g4 g2;refine⟨_,_,_,_,rfl,hr.len,rfl,aD7.1,by omega,rfl,rfl,ha.a0,ha.a1,ha.c0,ha.c1,?_⟩;show(match m.2.2.2.2.2.2.1[j]? with |some b=>_ |none=>_)=_;rw[ah hj]
theorem ahk{n:Nat}{m:Mod}{D H half C Hd V L E:Nat}(h:yr m D H half C Hd V L E)(hn:2000000000≤n):rG n m=some (qD m):=by
 have hel:=h.lm.e;have hbl:=h.ok.bs;have hl8:=h.ok.l8;have g1:=h.ok.uX.dm;have g2:=h.ok.uX.hm;have g3:=h.ok.uX.pos;have g4:=h.ok.uX.hd;have g5:=h.ok.uX.dd;have g6:=h.ok.uX.sD;rw[Nat.mul_comm]at g6;have hf:=GA h.e8;rw[Qp];have h1:=aX (L:=fun k j a=>ij n k ((),a,m.2.2.1,(m.2.2.1.length:Int),j,m,())) (len:=m.2.2.1.length) (r:=((),iC m.2.2.1,m,()))
  (fun i=>JP (fun j=>jm (m.2.2.1.getD j 0)) i) (by
  intro k j hj;have hx: -128≤m.2.2.1.getD j 0∧m.2.2.1.getD j 0≤127:=h.e8.at j;show ij n (k+1) _=ij n k ((),imax (JP (fun j=>jm (m.2.2.1.getD j 0)) j) (jm (m.2.2.1.getD j 0)),_);rw[xM,jK,fk hj];simp only[aa];rw[aN (x:=m.2.2.1.getD j 0),aN (x:=0 -m.2.2.1.getD j 0)];have e1:av (decide (m.2.2.1.getD j 0<0)) (some (0 -m.2.2.1.getD j 0)) (some (m.2.2.1.getD j 0))=some (jm (m.2.2.1.getD j 0)):=by
   rw[af];unfold jm
   by_cases c:m.2.2.1.getD j 0<0
   ·rw[if_pos (by simpa using c),if_pos c];congr 1;omega
   ·rw[if_neg (by simpa using c),if_neg c]
  rw[e1];simp only[aa];have e2:∀x y:Int,av (decide (x>y)) (some x) (some y)=some (imax y x):=by
   intro x y;rw[af,H9]
   by_cases c:x>y
   ·rw[if_pos (by simpa using c),if_pos c]
   ·rw[if_neg (by simpa using c),if_neg c]
  rw[e2];simp only[aa];rw[aN]) (by
  intro k;show ij n (k+1) _=_;rw[xM,af,if_neg (by simp)];rfl) n (by omega)
 rw[show JP (fun j=>jm (m.2.2.1.getD j 0)) 0=0 from rfl]at h1;rw[h1];simp only[aa];have hL2:=aX (L:=fun k j s=>iS n k ((),s,j,m,())) (len:=E) (r:=((),iC m.2.2.1*2^E,m,())) (fun i=>iC m.2.2.1*2^i) (by
  intro k i hi;have:=M5 hf.1 hf.2.1 (i:=i) (by have:=h.el;omega);show iS n (k+1) _=_;rw[vd,af,if_pos (by rw[bF,h.es];omega),aN,aN (by have:=h.el;omega) (by have:=h.el;omega),atX,Int.mul_assoc]) (by
  intro k;show iS n (k+1) _=_;rw[vd,af,if_neg (by rw[h.es];simp)]) n (by have:=h.el;omega)
 rw[Int.pow_zero,Int.mul_one]at hL2;rw[hL2];simp only[aa];have h5:=aX (L:=fun k j l=>gu n k ((),l,m.2.2.2.2.2.2.1,(m.2.2.2.2.2.2.1.length:Int),j,m,())) (len:=m.2.2.2.2.2.2.1.length) (r:=(qD m,()))
  (fun i=>Nz D Hd m.2.2.2.2.2.2.1 (iC m.2.2.1*2^E) i) (by
  intro k j hj;obtain⟨l,t,a,d,hl,GG,ht,t1,t2,ha,hd,a1,a2,d1,d2,hs⟩:=h.aBL hj;have hbm:=ak hj;have hb:=h.ok.b _ hbm;have h8:=h.b8 _ hbm;have k1:=afc (n:=n) (w:=m.2.2.2.2.2.2.1[j].2.2.2.2.1) (r:=D) (c:=D) (s:=m.2.2.2.2.2.2.1[j].2.2.2.2.2.2.2.2.2.1) hb.o (by omega) (by omega) (by omega) h8.o hb.os.1 hb.os.2 hn;have k2:=afc (n:=n) (w:=m.2.2.2.2.2.2.1[j].2.2.2.2.2.2.2.2.2.2.2.2.2.1) (r:=D) (c:=Hd) (s:=m.2.2.2.2.2.2.1[j].2.2.2.2.2.2.2.2.2.2.2.2.2.2.2.2) hb.m3 (by omega) (by omega) (by omega) h8.m3 hb.ds.1 hb.ds.2 hn;have k1:nM n (m.2.2.2.2.2.2.1[j].2.2.2.2.1,(D:Int),m.2.2.2.2.2.2.1[j].2.2.2.2.2.2.2.2.2.1)=some a:=by rw[k1,ha];rfl
  have k2:nM n (m.2.2.2.2.2.2.1[j].2.2.2.2.2.2.2.2.2.2.2.2.2.1,(Hd:Int),m.2.2.2.2.2.2.1[j].2.2.2.2.2.2.2.2.2.2.2.2.2.2.2.2)=some d:=by rw[k2,hd];rfl
  show gu n (k+1) _=gu n k ((),Nz D Hd m.2.2.2.2.2.2.1 (iC m.2.2.1*2^E) (j+1),_);rw[hs,←hl];rw[ve,jK,bj hj];simp only[aa];rw[aN (x:=(l.length:Int) -1),show(l.length:Int) -1=((2*j:Nat):Int)by omega,fk (show 2*j<l.length by omega),←ht];simp only[aa];rw[h.ok.d,h.ok.hd,k1];simp only[aa];rw[k2];simp only[aa];rw[aN (x:=t+a),aN (x:=t+a+d),et (by simp;omega) (by omega)];simp only[aa];rw[aN]) (by
  intro k;show gu n (k+1) _=_;rw[ve,af,if_neg (by simp),h.eq]) n (by omega)
 rw[show Nz D Hd m.2.2.2.2.2.2.1 (iC m.2.2.1*2^E) 0=[iC m.2.2.1*2^E]from rfl]at h5;rw[h5];rfl
theorem ahl{n:Nat}{m:Mod}{D H half C Hd V L E:Nat}(h:yr m D H half C Hd V L E)(hn:2000000000≤n):rl n m=some (qD m):=by
 have hel:=h.lm.e;have hbl:=h.ok.bs;have hl8:=h.ok.l8;have g1:=h.ok.uX.dm;have g2:=h.ok.uX.hm;have g3:=h.ok.uX.pos;have g4:=h.ok.uX.hd;have g5:=h.ok.uX.dd;have g6:=h.ok.uX.sD;rw[Nat.mul_comm]at g6;have hf:=GA h.e8;rw[Qe];have h1:=aX (L:=fun k j a=>ia n k ((),a,m.2.2.1,(m.2.2.1.length:Int),j,m,())) (len:=m.2.2.1.length) (r:=((),iC m.2.2.1,m,()))
  (fun i=>JP (fun j=>jm (m.2.2.1.getD j 0)) i) (by
  intro k j hj;have hx: -128≤m.2.2.1.getD j 0∧m.2.2.1.getD j 0≤127:=h.e8.at j;have Va:=(Uy (f:=fun j=>jm (m.2.2.1.getD j 0)) (b:=128) (by omega) (k:=j) (fun i _=>by have:=h.e8.at i;show jm (m.2.2.1.getD i 0)≤128;unfold jm;split<;>omega)).1;show ia n (k+1) _=ia n k ((),imax (JP (fun j=>jm (m.2.2.1.getD j 0)) j) (jm (m.2.2.1.getD j 0)),_);rw[xE,jK,fk hj];simp only[aa];rw[aN (x:=m.2.2.1.getD j 0),aN (x:=0 -m.2.2.1.getD j 0),aN];have e1:imax (imax (JP (fun j=>jm (m.2.2.1.getD j 0)) j) (m.2.2.1.getD j 0)) (0 -m.2.2.1.getD j 0)=imax (JP (fun j=>jm (m.2.2.1.getD j 0)) j) (jm (m.2.2.1.getD j 0)):=by
   obtain⟨q,hq⟩:∃q,q=JP (fun j=>jm (m.2.2.1.getD j 0)) j:=⟨_,rfl⟩;rw[←hq]at Va ⊢;simp only[H9];unfold jm
   repeat' split
   all_goals omega
  rw[e1]) (by
  intro k;show ia n (k+1) _=_;rw[xE,af,if_neg (by simp)];rfl) n (by omega)
 rw[show JP (fun j=>jm (m.2.2.1.getD j 0)) 0=0 from rfl]at h1;rw[h1];simp only[aa];have hE:=h.el;have hfp:=M5 hf.1 hf.2.1 hE;have e2:qG .i64 (iC m.2.2.1) m.2.2.2.1=some (iC m.2.2.1*2^E):=by
  unfold qG;rw[h.es,gG,ax,show min E (b9 .i64)=E by show min E 64=E;omega,aN]
 rw[e2];simp only[aa];have h5:=aX (L:=fun k j l=>ib n k ((),l,m.2.2.2.2.2.2.1,(m.2.2.2.2.2.2.1.length:Int),j,m,())) (len:=m.2.2.2.2.2.2.1.length) (r:=(qD m,()))
  (fun i=>Nz D Hd m.2.2.2.2.2.2.1 (iC m.2.2.1*2^E) i) (by
  intro k j hj;obtain⟨l,t,a,d,hl,GG,ht,t1,t2,ha,hd,a1,a2,d1,d2,hs⟩:=h.aBL hj;have hbm:=ak hj;have hb:=h.ok.b _ hbm;have h8:=h.b8 _ hbm;have k1:=afd (n:=n) (w:=m.2.2.2.2.2.2.1[j].2.2.2.2.1) (r:=D) (c:=D) (s:=m.2.2.2.2.2.2.1[j].2.2.2.2.2.2.2.2.2.1) hb.o (by omega) (by omega) (by omega) h8.o hb.os.1 hb.os.2 hn;have k2:=afd (n:=n) (w:=m.2.2.2.2.2.2.1[j].2.2.2.2.2.2.2.2.2.2.2.2.2.1) (r:=D) (c:=Hd) (s:=m.2.2.2.2.2.2.1[j].2.2.2.2.2.2.2.2.2.2.2.2.2.2.2.2) hb.m3 (by omega) (by omega) (by omega) h8.m3 hb.ds.1 hb.ds.2 hn;have k1:nE n (m.2.2.2.2.2.2.1[j].2.2.2.2.1,(D:Int),m.2.2.2.2.2.2.1[j].2.2.2.2.2.2.2.2.2.1)=some a:=by rw[k1,ha];rfl
  have k2:nE n (m.2.2.2.2.2.2.1[j].2.2.2.2.2.2.2.2.2.2.2.2.2.1,(Hd:Int),m.2.2.2.2.2.2.1[j].2.2.2.2.2.2.2.2.2.2.2.2.2.2.2.2)=some d:=by rw[k2,hd];rfl
  show ib n (k+1) _=ib n k ((),Nz D Hd m.2.2.2.2.2.2.1 (iC m.2.2.1*2^E) (j+1),_);rw[hs,←hl];rw[xF,jK,bj hj];simp only[aa];rw[aN (x:=(l.length:Int) -1),show(l.length:Int) -1=((2*j:Nat):Int)by omega,fk (show 2*j<l.length by omega),←ht];simp only[aa];rw[h.ok.d,h.ok.hd,k1];simp only[aa];rw[aN (x:=t+a),et (by simp;omega) (by omega)];simp only[aa];have sQ:(l++[t+a]).length=2*j+2:=by simp;omega
  rw[aN (x:=(((l++[t+a]).length:Nat):Int) -1),show(((l++[t+a]).length:Nat):Int) -1=((2*j+1:Nat):Int)by omega,fk (show 2*j+1<(l++[t+a]).length by omega)];simp only[aa];have e3:(l++[t+a]).getD (2*j+1) 0=t+a:=by rw[←GG];simp
  rw[e3,k2];simp only[aa];rw[aN (x:=t+a+d),et (by simp;omega) (by omega),bn];simp only[aa];rw[aN];rfl) (by
  intro k;show ib n (k+1) _=_;rw[xF,af,if_neg (by simp),h.eq]) n (by omega)
 rw[show Nz D Hd m.2.2.2.2.2.2.1 (iC m.2.2.1*2^E) 0=[iC m.2.2.1*2^E]from rfl]at h5;rw[h5];rfl
structure at1 (m:Mod):Prop where
 len:ahh m
 e:bc m.2.2.1
 b:∀b∈m.2.2.2.2.2.2.1,OkB b
def Mr(m:Mod):Prop:=abU m∧∀x∈qD m,x≤268435456
theorem apn{m:Mod}(h:at1 m)(hp:abU m):∃D H half C Hd V L E,yr m D H half C Hd V L E:=by
 obtain⟨-,-,-,D,H,half,C,Hd,V,L,ho⟩:=hp;exact⟨D,H,half,C,Hd,V,L,m.2.2.2.1.toNat,h.len,ho,h.e,h.b,by have:=ho.es;omega,by have:=ho.es;omega⟩
theorem yr.len{m:Mod}{D H half C Hd V L E:Nat}(h:yr m D H half C Hd V L E):(qD m).length≤17:=by
 have hr:=(h.rch (i:=m.2.2.2.2.2.2.1.length) (aA _)).len;rw[←h.eq]at hr;have:=h.ok.bs;have:=h.ok.l8;omega
theorem YG{n:Nat}{m:Mod}(h:at1 m)(hn:2000000000≤n):∃b,wS n m=some b∧(b=true↔Mr m)∧∃r,oQ n m=some r∧(r.2.2=0↔Mr m):=by
 have key:∃r,oQ n m=some r∧(r.2.2=0↔Mr m):=by
  obtain⟨p,p1,p2⟩:=am9 h.len hn;rw[WC,p1];simp only[aa,af,bne_iff_ne,ne_eq]
  by_cases c:p.2.2=0
  case neg=>rw[if_pos c];exact⟨_,rfl,fun h=>absurd h c,fun h=>absurd (p2.2 h.1) c⟩
  have hp:=p2.1 c;rw[if_neg (fun h=>h c)];obtain⟨D,H,half,C,Hd,V,L,E,hc⟩:=apn h hp;rw[ahk hc hn];simp only[aa];have hlen:=hc.len;rcases dc (L:=fun k j (_:Unit)=>jE n k (qD m,(((qD m).length:Nat):Int),j,())) (len:=(qD m).length) (fun _=>()) (fun i=>(qD m).getD i 0≤268435456) (fun i=> .inl (9,(i:Int),163,())) (.inr ()) (by
   intro k j hj _;show(_∧jE n (k+1) _=_)∨(_∧jE n (k+1) _=_);rw[BC,jK,fk hj];simp only[aa,af,bF]
   by_cases d:(qD m).getD j 0>268435456
   ·rw[if_pos d];exact .inr ⟨by omega,rfl⟩
   ·rw[if_neg d,aN];exact .inl ⟨by omega,rfl⟩) (by
   intro k;show jE n (k+1) _=_;rw[BC,af,if_neg (by simp)]) n (by omega)with⟨h1,h2⟩|⟨j,h1,h2,h3,h4⟩
  ·rw[h2];refine⟨_,rfl,fun _=>⟨hp,fun x hx=> ?_⟩,fun _=>rfl⟩;obtain⟨j,hj,rfl⟩:=aL hx;have:=h1 j hj;rw[aT hj]at this;exact this
  ·rw[h4];refine⟨_,rfl,fun h=>(by cases h),fun h=>absurd ?_ h3⟩;rw[aT h1];exact h.2 _ (ak h1)
 obtain⟨r,e,hr⟩:=key;rw[WD,e];exact⟨_,rfl,by rw[beq_iff_eq];exact hr,r,rfl,hr⟩
theorem ank{n:Nat}{m:Mod}(hm:ahh m)(hS:DW m.1)(hn:2000000000≤n):∃r,wu n m=some r∧(r.2=0↔∃D H half C Hd V L,MOk m D H half C Hd V L):=by
 have hbs:=hm.bs;rw[Wc];have ana:=ape (n:=n) hS;obtain⟨D,H,half,C,Hd,V,L,ae9,hV,hC,hD,hH,hL,hHd,hV2,hL8,hhf⟩:=aqr hS;rw[hhf]at ana;have huq:=aiu (m:=m) hhf hV hC hD hH hL hHd;have g1:=ae9.dm;have g2:=ae9.hm;have g3:=ae9.cm;have g4:=ae9.hle;have m1:V*D≤512*64:=bK hV2.2 g1;have m2:C*half≤512*64:=bK g3 (by omega);have e1:=Up m1 (by omega);have e2:=Up m2 (by omega);rw[ana];simp only[aa,af,bne_iff_ne,ne_eq];rw[hV,hD,hC,hL,e1,e2]
 by_cases c3:¬ (m.2.2.1.length:Int)=((V*D:Nat):Int)
 ·rw[if_pos c3];exact⟨_,rfl,fun h=>(by cases h),fun h=>absurd (by rw[(huq h).e]) c3⟩
 rw[if_neg c3,EX];simp only[aa]
 by_cases c4:¬ (0≤m.2.2.2.1∧m.2.2.2.1≤24)
 ·rw[if_pos (by simp only[aW,decide_eq_false_iff_not];exact c4)];exact⟨_,rfl,fun h=>(by cases h),fun h=>absurd (huq h).es c4⟩
 have c4:=Decidable.not_not.1 c4;rw[if_neg (by simp only[aW,decide_eq_false_iff_not];exact fun h=>h c4)]
 by_cases d1:¬ (m.2.2.2.2.1.length:Int)=((C*half:Nat):Int)
 ·rw[if_pos d1];exact⟨_,rfl,fun h=>(by cases h),fun h=>absurd (by rw[(huq h).cos]) d1⟩
 rw[if_neg d1]
 by_cases d2:¬ (m.2.2.2.2.2.1.length:Int)=((C*half:Nat):Int)
 ·rw[if_pos d2];exact⟨_,rfl,fun h=>(by cases h),fun h=>absurd (by rw[(huq h).sin]) d2⟩
 rw[if_neg d2];obtain⟨M,hM⟩:∃M:Nat,imax (L:Int) (m.2.2.2.2.2.2.1.length:Int)=(M:Int)∧M=max L m.2.2.2.2.2.2.1.length:=by
  refine⟨max L m.2.2.2.2.2.2.1.length,?_,rfl⟩;rw[H9]
  split<;>omega
 rw[hM.1];rcases dc (L:=fun k j (_:Unit)=>(iK n k ((),(),(),(M:Int),j,m,(0,0),m.1,())).map (fun q=>match q with |.inl q=>Sum.inl (decide (q.2.1=0))|.inr q=> .inr q)) (len:=M) (fun _=>())
  (fun i=>i<L∧∃(h:i<m.2.2.2.2.2.2.1.length),Jw D Hd m.2.2.2.2.2.2.1[i]) (fun _=> .inl false) (.inr ((),(),(),m,(0,0),m.1,())) (by
  intro k j hj _;show(_∧Option.map _ (iK n (k+1) _)=_)∨(_∧Option.map _ (iK n (k+1) _)=_);rw[yD,jK,fM];simp only[aa];rw[hL]
  by_cases d1:(j:Int)<(L:Int)∧(j:Int)<(m.2.2.2.2.2.2.1.length:Int)
  case neg=>
   have e:(decide ((j:Int)<(L:Int))&&decide ((j:Int)<(m.2.2.2.2.2.2.1.length:Int)))=false:=by
    rw[←eK,aj,bF,bF];exact d1
   rw[e];refine .inr ⟨fun h=> ?_,rfl⟩;obtain⟨h1,h2,-⟩:=h;exact d1 ⟨by omega,by omega⟩
  have hj2:j<m.2.2.2.2.2.2.1.length:=by omega
  obtain⟨r,hr,hr2⟩:=am8 (n:=n) (s:=m.1) (b:=m.2.2.2.2.2.2.1[j]) (D:=D) (Hd:=Hd) hD hHd g1 g2 hn;rw[decide_eq_true d1.1,decide_eq_true d1.2,bj hj2];simp only[Bool.and_true,j9,aa];rw[hr];simp only[aa,af,bne_iff_ne,ne_eq]
  by_cases d2:¬ r=0
  ·rw[if_pos d2];refine .inr ⟨fun h=> ?_,by simp[d2]⟩;obtain⟨-,h1,h2⟩:=h;exact d2 (hr2.2 h2)
  ·rw[if_neg d2,aN];exact .inl ⟨⟨by omega,hj2,hr2.1 (Decidable.not_not.1 d2)⟩,rfl⟩) (by
  intro k;show Option.map _ (iK n (k+1) _)=_;rw[yD,af,if_neg (by simp)];rfl) n (by omega)with⟨h3,h4⟩|⟨j,h3,h4,h5,h6⟩
 case inr=>
  obtain⟨q,hq,Nt⟩:=Option.map_eq_some_iff.1 h6;rw[hq]
  match q,Nt with
  |.inl q,Nt=>
   have hz:¬ q.2.1=0:=by simpa using Nt
   refine⟨_,rfl,fun h=>absurd h hz,fun h=>absurd ?_ h5⟩;have hb:=(huq h).bs;have hj:j<m.2.2.2.2.2.2.1.length:=by omega
   exact⟨by omega,hj,(huq h).b _ (ak hj)⟩
  |.inr q,Nt=>cases Nt
 obtain⟨q,hq,Nt⟩:=Option.map_eq_some_iff.1 h4;rw[hq]
 match q,Nt with
 |.inl q,Nt=>cases Nt
 |.inr q,Nt=>
 have Nt:q=((),(),(),m,(0,0),m.1,()):=by simpa using Nt
 subst Nt;simp only[aa,cY];rw[hD,hV,e1];have hLl:m.2.2.2.2.2.2.1.length=L:=by
  by_cases h0:M=0
  ·omega
  ·obtain⟨a1,a2,-⟩:=h3 (M -1) (by omega);omega
 by_cases c6:¬ (m.2.2.2.2.2.2.2.1.length:Int)=256
 ·rw[if_pos c6];exact⟨_,rfl,fun h=>(by cases h),fun h=>(by have:=(huq h).be;omega)⟩
 rw[if_neg c6]
 by_cases c7:¬ (m.2.2.2.2.2.2.2.2.1.length:Int)=(D:Int)
 ·rw[if_pos c7];exact⟨_,rfl,fun h=>(by cases h),fun h=>(by have:=(huq h).g;omega)⟩
 rw[if_neg c7]
 by_cases c8:¬ (m.2.2.2.2.2.2.2.2.2.1.length:Int)=((V*D:Nat):Int)
 ·rw[if_pos c8];exact⟨_,rfl,fun h=>(by cases h),fun h=>(by have:=(huq h).u;omega)⟩
 rw[if_neg c8];obtain⟨b,hb,J0⟩:=Uo (n:=n) (l:=[m.2.2.2.2.2.2.2.2.2.2]) (by simp) hn;rw[hb];simp only[aa];rcases n8 J0 with⟨p,rfl⟩|⟨p,rfl⟩
 case inr=>
  refine⟨_,rfl,fun h=>(by cases h),fun h=>absurd (fun x hx=> ?_) p⟩;have:x=m.2.2.2.2.2.2.2.2.2.2:=by simpa using hx
  rw[this];exact(huq h).ls
 refine⟨_,rfl,fun _=>⟨D,H,half,C,Hd,V,L,ae9,hV,hC,hD,hH,hL,hHd,hV2,hL8,by omega,c4,by omega,by omega,hLl,fun b hb=> ?_,by omega,by omega,by omega,p _ (by simp)⟩,fun _=>rfl⟩;obtain⟨j,hj,rfl⟩:=aL hb;obtain⟨_,_,hx⟩:=h3 j (by omega);exact hx
theorem YH{n:Nat}{m:Mod}(h:at1 m)(hn:2000000000≤n):∃r,qN n m=some r∧(r.2=0↔Mr m):=by
 obtain⟨vr,hvr,atJ⟩:=Ml (n:=n) (v:=m.2.1) h.len.t h.len.ms h.len.tt hn;rw[Wf,Yz];simp only[aa,af,bne_iff_ne,ne_eq]
 by_cases hS:DW m.1
 case neg=>
  rw[Ca hS,if_pos (by decide)];exact⟨_,rfl,fun h=>(by cases h),fun h=>absurd h.1.1 hS⟩
 rw[MZ hS,if_neg (by simp),Wa,hvr];simp only[aa,af,bne_iff_ne,ne_eq]
 by_cases c1:¬ vr.2=0
 ·rw[if_pos c1];simp only[aa];rw[if_pos c1];exact⟨_,rfl,fun h=>absurd h c1,fun h=>absurd (atJ.2 h.1.2.1) c1⟩
 rw[if_neg c1];have akQ:=atJ.1 (Decidable.not_not.1 c1)
 by_cases c2:¬ (m.2.1.1.length:Int)=m.1.1
 ·rw[if_pos c2];simp only[aa];rw[if_pos (by decide)];exact⟨_,rfl,fun h=>(by cases h),fun h=>absurd h.1.2.2.1 c2⟩
 rw[if_neg c2];simp only[aa];rw[if_neg (by decide)];obtain⟨p,p1,p2⟩:=ank h.len hS hn;rw[p1];simp only[aa]
 by_cases c:p.2=0
 case neg=>rw[if_pos c];exact⟨_,rfl,fun h=>absurd h c,fun h=>absurd (p2.2 h.1.2.2.2) c⟩
 rw[if_neg (fun h=>h c)];have hp:abU m:=⟨hS,akQ,Decidable.not_not.1 c2,p2.1 c⟩;obtain⟨D,H,half,C,Hd,V,L,E,hc⟩:=apn h hp;rw[ahl hc hn];simp only[aa];have hlen:=hc.len;rcases dc (L:=fun k j (_:Unit)=>iL n k ((),qD m,(((qD m).length:Nat):Int),j,(0,0),())) (len:=(qD m).length) (fun _=>()) (fun i=>(qD m).getD i 0≤268435456) (fun i=> .inl ((),163,(9,(i:Int)),())) (.inr ((),(0,0),())) (by
  intro k j hj _;show(_∧iL n (k+1) _=_)∨(_∧iL n (k+1) _=_);rw[yE,jK,fk hj];simp only[aa,af,bF]
  by_cases d:(qD m).getD j 0>268435456
  ·rw[if_pos d];exact .inr ⟨by omega,rfl⟩
  ·rw[if_neg d,aN];exact .inl ⟨by omega,rfl⟩) (by
  intro k;show iL n (k+1) _=_;rw[yE,af,if_neg (by simp)]) n (by omega)with⟨h1,h2⟩|⟨j,h1,h2,h3,h4⟩
 ·rw[h2];refine⟨_,rfl,fun _=>⟨hp,fun x hx=> ?_⟩,fun _=>rfl⟩;obtain⟨j,hj,rfl⟩:=aL hx;have:=h1 j hj;rw[aT hj]at this;exact this
 ·rw[h4];refine⟨_,rfl,fun h=>(by cases h),fun h=>absurd ?_ h3⟩;rw[aT h1];exact h.2 _ (ak h1)
theorem apo{n:Nat}{m:Mod}(h:at1 m)(hn:2000000000≤n):∃b,zi n m=some b∧(b=true↔Mr m):=by
 obtain⟨r,e,hr⟩:=YH h hn;rw[aao,e];exact⟨_,rfl,by rw[beq_iff_eq];exact hr⟩
abbrev Par:=Int×Int×Int×Int×Int×List (Int×Int)
def qE(b:Int):Prop:=b=1∨b=2∨b=4∨b=8∨b=16∨b=32
instance (b:Int):Decidable (qE b):=by unfold qE;exact inferInstance
def JQ(b:Int):Int:=if qE b then 2^b.toNat else 0
theorem UA{b:Int}(h:qE b):qG .i64 1 b=some (2^b.toNat)∧0<(2:Int)^b.toNat∧(2:Int)^b.toNat≤4294967296∧0≤b∧b≤32:=by
 rcases h with rfl |rfl |rfl |rfl |rfl |rfl<;>decide+kernel
theorem akV{n:Nat}{l:List Int}{x:Int}(hl:l.length≤1000000000)(hn:2000000000≤n):
  (∃i,gq n (l,x)=some i∧((x∉l∧i= -1)∨∃j:Nat,i=(j:Int)∧j<l.length∧l.getD j 0=x∧∀k,k<j→l.getD k 0≠x))∧∃b,iG n (l,x)=some b∧(b=true↔x∈l):=by
 have key:∃i,gq n (l,x)=some i∧((x∉l∧i= -1)∨∃j:Nat,i=(j:Int)∧j<l.length∧l.getD j 0=x∧∀k,k<j→l.getD k 0≠x):=by
  rw[vb];rcases dc (L:=fun k j (_:Unit)=>cU n k (l,x,(l.length:Int),j,())) (len:=l.length) (fun _=>()) (fun i=>l.getD i 0≠x) (fun i=> .inl ((i:Int),())) (.inr ()) (by
   intro k j hj _;show(_∧cU n (k+1) _=_)∨(_∧cU n (k+1) _=_);rw[js,jK,fk hj];simp only[aa,af,beq_iff_eq]
   by_cases c:x=l.getD j 0
   ·rw[if_pos c];exact .inr ⟨fun h=>h c.symm,rfl⟩
   ·rw[if_neg c,aN];exact .inl ⟨fun h=>c h.symm,rfl⟩) (by
   intro k;show cU n (k+1) _=_;rw[js,af,if_neg (by simp)]) n (by omega)with⟨h1,h2⟩|⟨j,h1,h2,h3,h4⟩
  ·rw[h2];refine⟨_,rfl,.inl ⟨fun h=> ?_,rfl⟩⟩;obtain⟨j,hj,rfl⟩:=aL h;exact h1 j hj (by rw[aT hj])
  ·rw[h4];exact⟨_,rfl,.inr ⟨j,rfl,h1,Decidable.not_not.1 h3,h2⟩⟩
 refine⟨key,?_⟩;obtain⟨i,e,h⟩:=key;rw[rb,e];refine⟨_,rfl,?_⟩;rw[bF];rcases h with⟨h,rfl⟩|⟨j,rfl,hj,h,-⟩
 ·exact⟨fun h'=>by omega,fun h'=>absurd h' h⟩
 ·refine⟨fun _=> ?_,fun _=>by omega⟩;rw[←h,aT hj];exact ak hj
theorem afe{n:Nat}{p:Par}(hn:2000000000≤n):tr n p=some (JQ p.2.2.2.2.1):=by
 obtain⟨-,b,e,h⟩:=akV (n:=n) (l:=[1,2,4,8,16,32]) (x:=p.2.2.2.2.1) (by simp) hn;rw[aap,e];simp only[aa];have h:b=true↔qE p.2.2.2.2.1:=by
  rw[h];unfold qE;simp
 unfold JQ;rcases n8 h with⟨c,rfl⟩|⟨c,rfl⟩
 ·rw[if_pos c,(UA c).1];rfl
 ·rw[if_neg c];rfl
theorem YI{n:Nat}{p:Par}:oR n p=some (JQ p.2.2.2.2.1):=by
 rw[WE];obtain⟨b,hb⟩:∃b,b=p.2.2.2.2.1:=⟨_,rfl⟩;rw[←hb];unfold JQ
 by_cases c:qE b
 ·rw[if_pos c];have ht:=UA c;rw[atx,Int.emod_eq_of_lt (by omega) (by omega),ht.1];rcases c with rfl |rfl |rfl |rfl |rfl |rfl<;>rfl
 ·rw[if_neg c];unfold qE at c;have e:∀x:Int,b≠x→(b==x)=false:=fun x h=>beq_eq_false_iff_ne.2 h;rw[e 1 (by omega),e 2 (by omega),e 4 (by omega),e 8 (by omega),e 16 (by omega),e 32 (by omega)];rfl
theorem anl{b:Int}:(JQ b==0)=decide (¬ qE b):=by
 unfold JQ
 by_cases c:qE b
 ·rw[if_pos c,decide_eq_false (fun h=>h c),beq_eq_false_iff_ne];have:=(UA c).2.1;omega
 ·rw[if_neg c,decide_eq_true c];rfl
def uY(p:Par)(i:Nat):Int×Int:=p.2.2.2.2.2.getD i (0,0)
def akW(p:Par)(t:Int)(i:Nat):Prop:=(0≤(uY p i).1∧(uY p i).1<t)∧(-1048576≤(uY p i).2∧(uY p i).2≤1048576)∧∀k,k<i→(uY p k).1≠(uY p i).1
structure aff (p:Par) (t:Int):Prop where
 tk:1≤t∧t≤512
 num:0≤p.1∧p.1≤65536
 den:1≤p.2.1∧p.2.1≤65536
 k:0≤p.2.2.1∧p.2.2.1≤t
 tp:1≤p.2.2.2.1∧p.2.2.2.1≤65536
 bits:qE p.2.2.2.2.1
 bl:p.2.2.2.2.2.length≤64
 b:∀i,i<p.2.2.2.2.2.length→akW p t i
theorem aqB{p:Par}{i:Nat}(h:i<p.2.2.2.2.2.length):idx p.2.2.2.2.2 (i:Int)=some (uY p i):=qC h (0,0)
theorem aiy{p:Par}{i j:Nat}(h:j<i)(hi:i≤p.2.2.2.2.2.length):idx (p.2.2.2.2.2.take i) (j:Int)=some (uY p j):=by
 rw[bj (by rw[aC];omega)];unfold uY;simp[show j<p.2.2.2.2.2.length by omega]
theorem apq{n:Nat}{p:Par}{i:Nat}(hi:i<p.2.2.2.2.2.length)(hl:i≤1000000000)(hn:2000000000≤n):
  ∃b,cV n (p.2.2.2.2.2.take i,(uY p i,()))=some b∧(b=false↔∀k,k<i→(uY p k).1≠(uY p i).1):=by
 have hlen:(p.2.2.2.2.2.take i).length=i:=by rw[aC];omega
 rw[kS,mr,hlen];rcases dc (L:=fun k j (_:Unit)=>bp n k (p.2.2.2.2.2.take i,(uY p i,()),(i:Int),j,())) (len:=i) (fun _=>()) (fun k=>(uY p k).1≠(uY p i).1) (fun i=> .inl ((i:Int),())) (.inr ()) (by
  intro k j hj _;show(_∧bp n (k+1) _=_)∨(_∧bp n (k+1) _=_);rw[fK,jK,aiy hj (by omega)];simp only[aa];rw[Ti];simp only[aa,af,beq_iff_eq]
  by_cases c:(uY p j).1=(uY p i).1
  ·rw[if_pos c];exact .inr ⟨fun h=>h c,rfl⟩
  ·rw[if_neg c,aN];exact .inl ⟨c,rfl⟩) (by
  intro k;show bp n (k+1) _=_;rw[fK,af,if_neg (by simp)]) n (by omega)with⟨h1,h2⟩|⟨j,h1,h2,h3,h4⟩
 ·rw[h2];exact⟨false,rfl,fun _=>h1,fun _=>rfl⟩
 ·rw[h4];simp only[aa,cY];rw[decide_eq_true (show(j:Int)≥0 by omega)];exact⟨true,rfl,fun h=>(by cases h),fun h=>absurd (h j h1) h3⟩
theorem afg{n:Nat}{p:Par}{t:Int}(hl:p.2.2.2.2.2.length≤1048576)(hn:2000000000≤n):∃r,tw n (p,t)=some r∧((aff p t∧r=0)∨(¬ aff p t∧r=220)):=by
 rw[aaq];simp only[H6,afe hn,aa,eP,anl];rw[af]
 by_cases c:(1≤t∧t≤512)∧(0≤p.1∧p.1≤65536)∧(1≤p.2.1∧p.2.1≤65536)∧(0≤p.2.2.1∧p.2.2.1≤t)∧(1≤p.2.2.2.1∧p.2.2.2.1≤65536)∧qE p.2.2.2.2.1∧p.2.2.2.2.2.length≤64
 case neg=>
  rw[if_pos]
  ·exact⟨220,rfl,.inr ⟨fun h=>c ⟨h.tk,h.num,h.den,h.k,h.tp,h.bits,h.bl⟩,rfl⟩⟩
  ·apply Decidable.byContradiction;intro hc;apply c;simp only[aB,aW,decide_eq_false_iff_not,bF,not_or,Decidable.not_not]at hc;obtain⟨h1,h2,h3,h4,h5,h6,h7⟩:=hc;exact⟨h1,h2,h3,h4,h5,h6,by omega⟩
 obtain⟨c1,c2,c3,c4,c5,c6,c7⟩:=c;rw[if_neg (by
  simp only[aB,aW,decide_eq_false_iff_not,bF,not_or,Decidable.not_not];exact⟨c1,c2,c3,c4,c5,c6,by omega⟩)]
 rcases dc (L:=fun k j (_:Unit)=>kq n k (t,(),p.2.2.2.2.2,(p.2.2.2.2.2.length:Int),j,p,())) (len:=p.2.2.2.2.2.length) (fun _=>()) (akW p t) (fun i=> .inl (220,())) (.inr ()) (by
  intro k j hj _;show(_∧kq n (k+1) _=_)∨(_∧kq n (k+1) _=_);obtain⟨b,e,h⟩:=apq (n:=n) hj (by omega) hn;rw[Dg,jK,aqB hj];simp only[aa];rw[we];simp only[aa];rw[e];simp only[aa,H6,eP];rw[aN (x:=t -1),af]
  by_cases d:akW p t j
  ·rw[if_neg (by
    simp only[aB,aW,decide_eq_false_iff_not,bF,not_or,Decidable.not_not,eK];have d1:=d.1;have d2:=d.2.1;exact⟨by omega,by omega,by omega,h.2 d.2.2⟩),aN]
   exact .inl ⟨d,rfl⟩
  ·rw[if_pos]
   ·exact .inr ⟨d,rfl⟩
   ·apply Decidable.byContradiction;intro hc;apply d;simp only[aB,aW,decide_eq_false_iff_not,bF,not_or,Decidable.not_not,eK]at hc;obtain⟨h1,h2,h3,h4⟩:=hc;exact⟨by omega,by omega,h.1 h4⟩) (by
  intro k;show kq n (k+1) _=_;rw[Dg,af,if_neg (by simp)]) n (by omega)with⟨h1,h2⟩|⟨j,h1,h2,h3,h4⟩
 ·rw[h2];exact⟨0,rfl,.inl ⟨⟨c1,c2,c3,c4,c5,c6,c7,h1⟩,rfl⟩⟩
 ·rw[h4];exact⟨220,rfl,.inr ⟨fun h=>h3 (h.b j h1),rfl⟩⟩
theorem YJ{n:Nat}{p:Par}{t:Int}(hl:p.2.2.2.2.2.length≤1048576)(hn:2000000000≤n):∃r,qU n (p,t)=some r∧((aff p t∧r=0)∨(¬ aff p t∧r=220)):=by
 rw[WF];simp only[YI,aa,eP,anl];rw[af]
 by_cases c:(1≤t∧t≤512)∧(0≤p.1∧p.1≤65536)∧(1≤p.2.1∧p.2.1≤65536)
 case neg=>
  rw[if_pos]
  ·exact⟨220,rfl,.inr ⟨fun h=>c ⟨h.tk,h.num,h.den⟩,rfl⟩⟩
  ·apply Decidable.byContradiction;intro hc;apply c;simp only[aB,bF,not_or]at hc;omega
 rw[if_neg (by simp only[aB,bF,not_or];omega),af]
 by_cases c':(0≤p.2.2.1∧p.2.2.1≤t)∧(1≤p.2.2.2.1∧p.2.2.2.1≤65536)∧qE p.2.2.2.2.1∧p.2.2.2.2.2.length≤64
 case neg=>
  rw[if_pos]
  ·exact⟨220,rfl,.inr ⟨fun h=>c' ⟨h.k,h.tp,h.bits,h.bl⟩,rfl⟩⟩
  ·apply Decidable.byContradiction;intro hc;apply c';simp only[aB,bF,not_or,Decidable.not_not]at hc;obtain⟨h1,h2,h3,h4,h5,h6⟩:=hc;exact⟨by omega,by omega,h5,by omega⟩
 obtain⟨c1,c2,c3⟩:=c;obtain⟨c4,c5,c6,c7⟩:=c';rw[if_neg (by
  simp only[aB,bF,not_or,Decidable.not_not];exact⟨by omega,by omega,by omega,by omega,c6,by omega⟩)]
 rcases dc (L:=fun k j (_:Unit)=>jF n k (t,(),p.2.2.2.2.2,(p.2.2.2.2.2.length:Int),j,p,())) (len:=p.2.2.2.2.2.length) (fun _=>()) (akW p t) (fun i=> .inl (220,())) (.inr ()) (by
  intro k j hj _;show(_∧jF n (k+1) _=_)∨(_∧jF n (k+1) _=_);rw[BD,jK,aqB hj];simp only[aa,eP];rw[af]
  by_cases d:(0≤(uY p j).1∧(uY p j).1<t)∧(-1048576≤(uY p j).2∧(uY p j).2≤1048576)
  case neg=>
   rw[if_pos]
   ·exact .inr ⟨fun h=>d ⟨h.1,h.2.1⟩,rfl⟩
   ·apply Decidable.byContradiction;intro hc;apply d;simp only[aB,bF,not_or]at hc;omega
  rw[if_neg (by simp only[aB,bF,not_or];omega),we];simp only[aa];have hlen:(p.2.2.2.2.2.take j).length=j:=by rw[aC];omega
  rw[hlen];rcases dc (L:=fun k i (_:Unit)=>iT n k (t,(),(),p.2.2.2.2.2,(p.2.2.2.2.2.length:Int),(j:Int),p.2.2.2.2.2.take j,(j:Int),i,p,uY p j,())) (len:=j) (fun _=>()) (fun k=>(uY p k).1≠(uY p j).1) (fun i=> .inl (220,())) (.inr (t,(),p.2.2.2.2.2,(p.2.2.2.2.2.length:Int),(j:Int),p,())) (by
   intro k i hi _;show(_∧iT n (k+1) _=_)∨(_∧iT n (k+1) _=_);rw[yR,jK,aiy hi (by omega)];simp only[aa,af,beq_iff_eq]
   by_cases c:(uY p i).1=(uY p j).1
   ·rw[if_pos c];exact .inr ⟨fun h=>h c,rfl⟩
   ·rw[if_neg c,aN];exact .inl ⟨c,rfl⟩) (by
   intro k;show iT n (k+1) _=_;rw[yR,af,if_neg (by simp)]) n (by omega)with⟨h1,h2⟩|⟨i,h1,h2,h3,h4⟩
  ·rw[h2];simp only[aa,cY];rw[aN];exact .inl ⟨⟨d.1,d.2,h1⟩,rfl⟩
  ·rw[h4];exact .inr ⟨fun h=>h3 (h.2.2 i h1),rfl⟩) (by
  intro k;show jF n (k+1) _=_;rw[BD,af,if_neg (by simp)]) n (by omega)with⟨h1,h2⟩|⟨j,h1,h2,h3,h4⟩
 ·rw[h2];exact⟨0,rfl,.inl ⟨⟨c1,c2,c3,c4,c5,c6,c7,h1⟩,rfl⟩⟩
 ·rw[h4];exact⟨220,rfl,.inr ⟨fun h=>h3 (h.b j h1),rfl⟩⟩
end Go.Am.Pu
