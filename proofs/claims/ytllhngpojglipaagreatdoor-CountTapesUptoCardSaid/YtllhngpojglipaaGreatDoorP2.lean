import Derived.Test.YtllhngpojglipaaGreatDoorP1
set_option linter.unusedVariables false
set_option linter.unusedSimpArgs false
open Bool renaming false_eq_true→cn
open Int renaming toNat_natCast→ax
open Go.IntKind renaming bits→b9,signed→fH,wrap→ae
open List renaming getD_eq_getElem?_getD→aB,getElem?_eq_none→bd,getElem_mem→am,length_append→ah,length_cons→bg,length_drop→dE,length_nil→dr,length_take→aC,length→af
open Nat renaming le_mul_of_pos_right→cy,le_refl→az,le_trans→ei,mul_le_mul_right→cv
open Option renaming bind_some→aa
namespace Go.Am.Pu
open Go Go.Am
theorem apB{x d:Int}(a: -9223372036854775808≤x)(b:x≤9223372036854775807)(c:1≤d): -9223372036854775808≤uE x d∧uE x d≤9223372036854775807:=by
 have g:=jz (x:=x) c;have e:=ajh a b c;unfold uE
 split
 ·exact e (by omega)
 ·omega
theorem ad1{x s:Int}(a: -9223372036854775808≤x)(b:x≤9223372036854775807): -9223372036854775808≤(cq x s).1∧(cq x s).1≤9223372036854775807:=by
 unfold cq
 split
 ·exact⟨by decide,by decide⟩
 ·exact apB a b (rn (by omega)).1
theorem PQ{l:List Int}{s:Int}(b:ir l):ir (ju l s).1:=by
 unfold ju
 split
 ·exact fun x a=>(by cases a)
 ·split
  ·exact fun x a=>(by cases a)
  ·intro x a;obtain⟨y,c,rfl⟩:=List.mem_map.1 a;exact ad1 (b y c).1 (b y c).2
def rD(l:List Int):Prop:=∀x∈l,-127≤x∧x≤127
theorem rD.bh{l:List Int}(h:rD l):bh l:=fun x i=>by have:=h x i;omega
theorem alf{l:List Int}{s:Int}:rD (zi l s).1:=by
 intro x a;obtain⟨y,_,rfl⟩:=List.mem_map.1 a;exact pn y
theorem alg{l:List Int}{s:Int}:(zi l s).1.length≤1048576:=by
 have:=(PN (l:=l) (s:=s)).1;simpa[zi]using this
theorem anh{w x:List Int}{c:Nat}(b:bh w)(hx:bh x)(h:w.length≤1048576):ir (Wn w c x):=by
 intro y d;obtain⟨j,g,rfl⟩:=iO d;have e:=ak6 (b.sub (j*c) c) hx;have a:(eG w c j).length≤w.length:=by simp[eG];omega
 unfold eG at a;show -9223372036854775808≤xM ((w.drop (j*c)).take c) x∧xM ((w.drop (j*c)).take c) x≤9223372036854775807;omega
theorem ke{w x:List Int}{fx:Int}(a:bh w)(hx:bh x):ir (kx w fx x).1:=by
 unfold kx
 split
 ·exact fun x hx=>(by cases hx)
 ·rename_i h
  split
  ·exact fun x hx=>(by cases hx)
  ·exact anh a hx (Wm (w:=w) (fx:=fx) (by omega)).1
def dI(w h:List Int)(s:Int):List Int×Int:=if(kx w (h.length:Int) h).2≠0 then([],(kx w (h.length:Int) h).2)else zi (kx w (h.length:Int) h).1 s
theorem jG{w h:List Int}{s:Int}:rD (dI w h s).1:=by
 unfold dI
 split
 ·exact fun x a=>(by cases a)
 ·exact alf
theorem zj{w h:List Int}{s:Int}:(dI w h s).1.length≤1048576:=by
 unfold dI
 split
 ·simp
 ·exact alg
theorem XP{n:Nat}{w h:List Int}{s:Int}(b:bh w)(hh:bh h)(c:h.length≤1000000000)(a:Hn0 n):ql n (w,h,s)=some (dI w h s):=by
 rw[VD,Fy b hh c a];unfold dI;simp only[aa,ag,bne_iff_ne]
 split
 ·rfl
 ·rw[adS (ke b hh) a];rfl
theorem Td{n:Nat}{w h:List Int}{s:Int}(b:bh w)(hh:bh h)(a:Hn0 n):pd n (w,h,s)=some (dI w h s):=by
 rw[SH,xg b hh a];unfold dI;simp only[aa,ag,bne_iff_ne]
 split
 ·rfl
 ·rw[S8 (ke b hh) a];rfl
def Bk(fK gate up:List Int)(i:Nat):Int:=fk (cq (fK.getD ((gate.getD i 0) % 256).toNat 0*up.getD i 0) 6).1
def Lr(fK gate up:List Int):List Int×Int:=
 if fK.length≠256 then([],120)else if gate.length>1048576∨up.length>1048576 then([],81)else if gate.length≠up.length then([],80)else(dL (Bk fK gate up) gate.length,0)
theorem ahd{fK gate up:List Int}{K:Option (List Int×Int)}(e:fK.length=256→gate.length≤1048576→gate.length=up.length→K=some (dL (Bk fK gate up) gate.length,0)):
  (av ((((af fK):Nat):Int)!=(256:Int))
   (some ([],(120:Int)))
   (av (decide ((((af gate):Nat):Int)>(1048576:Int)))
    (some ([],(81:Int)))
    (av (decide ((((af up):Nat):Int)>(1048576:Int)))
     (some ([],(81:Int)))
     (av ((((af gate):Nat):Int)!=(((af up):Nat):Int))
      (some ([],(80:Int))) K))))=some (Lr fK gate up):=by
 unfold Lr;simp only[ag,bx,bne_iff_ne,ne_eq]
 by_cases a:fK.length=256
 ·rw[gk,if_neg (show ¬ ¬ fK.length=256 by omega)]
  by_cases c:gate.length>1048576
  ·rw[lf,if_pos (.inl c)]
  ·rw[gk]
   by_cases d:up.length>1048576
   ·rw[lf,if_pos (.inr d)]
   ·rw[gk,if_neg (show ¬ (gate.length>1048576∨up.length>1048576)by omega)]
    by_cases b:gate.length=up.length
    ·rw[gk,if_neg (show ¬ ¬ gate.length=up.length by omega)];exact e a (by omega) b
    ·rw[lf,if_pos b]
 ·rw[lf,if_pos a]
theorem ary{n:Nat}{fK gate up:List Int}(e:bh fK)(g:bh gate)(j:bh up)(w:Hn0 n):Gj n (fK,gate,up)=some (Lr fK gate up):=by
 rw[afx];refine ahd fun q t u=> ?_;have h:Bx 1 (gate.length:Int)=some gate.length:=by
  unfold Bx room;rw[if_pos ⟨by omega,by omega,by omega⟩];simp
 rw[h];simp only[aa];have b:=ba (L:=fun k i o=>pz n k (fK,up,(),gate,(gate.length:Int),i,o,())) (len:=gate.length) (r:=((),dL (Bk fK gate up) gate.length,())) (fun i=>fill (Bk fK gate up) 0 gate.length i) ?_ ?_ n (by omega)
 ·rw[ve]at b;rw[b];rfl
 ·intro k i a;show pz n (k+1) _=_;rw[Iz];simp only[ag,bx];have b1:=g.at i;have c:=j.at i;have d:=e.at ((gate.getD i 0) % 256).toNat;have m1:=Wl d c;rw[lf,bn a 0];simp only[aa];have p:ae .u8 (gate.getD i 0)=(((gate.getD i 0) % 256).toNat:Int):=by
   have:ae .u8 (gate.getD i 0)=(gate.getD i 0) % 256:=by simp[ae,b9,fH]
   rw[this];omega
  rw[p,bn (l:=fK) (by omega) 0];simp only[aa];rw[bn (show i<up.length by omega) 0];simp only[aa];rw[aN (x:=fK.getD ((gate.getD i 0) % 256).toNat 0),aN (x:=up.getD i 0),aN (x:=fK.getD ((gate.getD i 0) % 256).toNat 0*up.getD i 0),ZR,mT (by omega) (by omega)];simp only[aa];rw[tX];simp only[aa];rw[Hc _ _ a];simp only[aa];rw[Bj _ _ a,aN];simp only[aa];rw[show fk (cq (fK.getD ((gate.getD i 0) % 256).toNat 0*up.getD i 0) 6).1=Bk fK gate up i from rfl,Bi _ _ a]
 ·intro k;show pz n (k+1) _=_;rw[Iz,ag,if_neg (by simp),Fx]
theorem ani{n:Nat}{fK gate up:List Int}(e:bh fK)(g:bh gate)(j:bh up)(u:Hn0 n):y6 n (fK,gate,up)=some (Lr fK gate up):=by
 rw[aaj];refine ahd fun p q t=> ?_;have a:=ba (L:=fun k i o=>mn n k (fK,up,o,gate,(gate.length:Int),i,())) (len:=gate.length) (r:=(dL (Bk fK gate up) gate.length,())) (fun i=>dL (Bk fK gate up) i) ?_ ?_ n (by omega)
 ·rw[eF]at a;rw[a];rfl
 ·intro k i h;show mn n (k+1) _=_;rw[CO];simp only[ag,bx];have b1:=g.at i;have b:=j.at i;have c:=e.at ((gate.getD i 0) % 256).toNat;have m1:=Wl c b;rw[lf,bn h 0];simp only[aa];rw[aN (x:=gate.getD i 0)];have d:(if gate.getD i 0<0 then some (fK,up,dL (Bk fK gate up) i,(i:Int),ae .i64 (gate.getD i 0+256),gate,(gate.length:Int),(i:Int),())else some (fK,up,dL (Bk fK gate up) i,(i:Int),gate.getD i 0,gate,(gate.length:Int),(i:Int),()))=
    some (fK,up,dL (Bk fK gate up) i,(i:Int),(((gate.getD i 0) % 256).toNat:Int),gate,(gate.length:Int),(i:Int),()):=by
   split
   ·rw[aN,show gate.getD i 0+256=(((gate.getD i 0) % 256).toNat:Int)by omega]
   ·rw[show((((gate.getD i 0) % 256).toNat:Nat):Int)=gate.getD i 0 by omega]
  rw[d];simp only[aa];rw[bn (l:=fK) (by omega) 0];simp only[aa];rw[bn (show i<up.length by omega) 0];simp only[aa];rw[aN (x:=fK.getD ((gate.getD i 0) % 256).toNat 0),aN (x:=up.getD i 0),aN (x:=fK.getD ((gate.getD i 0) % 256).toNat 0*up.getD i 0),pk (by omega) (by omega) (by omega)];simp only[aa];rw[tY];simp only[aa];rw[show fk (cq (fK.getD ((gate.getD i 0) % 256).toNat 0*up.getD i 0) 6).1=Bk fK gate up i from rfl,fv _ (by unfold room;omega) (by unfold room;omega),aN];rfl
 ·intro k;show mn n (k+1) _=_;rw[CO,ag,if_neg (by simp)]
theorem zu{fK gate up:List Int}:rD (Lr fK gate up).1:=by
 unfold Lr
 split
 ·exact fun x a=>(by cases a)
 ·split
  ·exact fun x a=>(by cases a)
  ·split
   ·exact fun x a=>(by cases a)
   ·intro x a;obtain⟨i,_,rfl⟩:=iO a;exact pn _
theorem apC{fK gate up:List Int}:(Lr fK gate up).1.length≤1048576:=by
 unfold Lr
 split
 ·simp
 ·split
  ·simp
  ·split
   ·simp
   ·rename_i h _;simp;omega
abbrev Mid:=List Int×List Int×List Int×Int×Int×Int
def nx(b:Mid)(fK h:List Int):List Int×Int:=
 let g:=dI b.1 h b.2.2.2.1
 if g.2≠0 then([],g.2)else
 let u:=dI b.2.1 h b.2.2.2.2.1
 if u.2≠0 then([],u.2)else
 let m:=Lr fK g.1 u.1
 if m.2≠0 then([],m.2)else
 let d:=kx b.2.2.1 (m.1.length:Int) m.1
 if d.2≠0 then([],d.2)else ju d.1 b.2.2.2.2.2
theorem anj{n:Nat}{b:Mid}{fK h:List Int}(e:bh b.1)(g:bh b.2.1)(c:bh b.2.2.1)(i:bh fK)(hh:bh h)(d:h.length≤1000000000)(a:Hn0 n):yK n (b,fK,h)=some (nx b fK h):=by
 rw[ZS,XP e hh d a];unfold nx;simp only[aa,ag,bne_iff_ne]
 split
 ·rfl
 ·rw[XP g hh d a];simp only[aa]
  split
  ·rfl
  ·rw[ary i jG.bh jG.bh a];simp only[aa]
   split
   ·rfl
   ·have:=apC (fK:=fK) (gate:=(dI b.1 h b.2.2.2.1).1) (up:=(dI b.2.1 h b.2.2.2.2.1).1);rw[Fy c zu.bh (by omega) a];simp only[aa]
    split
    ·rfl
    ·rw[Mg (ke c zu.bh) a];rfl
theorem apD{n:Nat}{b:Mid}{fK h:List Int}(d:bh b.1)(e:bh b.2.1)(c:bh b.2.2.1)(g:bh fK)(hh:bh h)(a:Hn0 n):Cg n (b,fK,h)=some (nx b fK h):=by
 rw[adh,Td d hh a];unfold nx;simp only[aa,ag,bne_iff_ne]
 split
 ·rfl
 ·rw[Td e hh a];simp only[aa]
  split
  ·rfl
  ·rw[ani g jG.bh jG.bh a];simp only[aa]
   split
   ·rfl
   ·rw[xg c zu.bh a];simp only[aa]
    split
    ·rfl
    ·rw[C4 (ke c zu.bh) a];rfl
theorem XQ{b:Mid}{fK h:List Int}(c:bh b.2.2.1):ir (nx b fK h).1:=by
 unfold nx;simp only
 split
 ·exact fun x a=>(by cases a)
 ·split
  ·exact fun x a=>(by cases a)
  ·split
   ·exact fun x a=>(by cases a)
   ·split
    ·exact fun x a=>(by cases a)
    ·exact PQ (ke c zu.bh)
theorem ank{n:Nat}(j:10≤n){a b:List Int}(h:Hf a b=0):l5 n [a,b]=some 0:=by
 obtain⟨e,g,i⟩:=ag6 h;obtain⟨k,rfl⟩:∃k,n=k+4:=⟨n -4,by omega⟩;have c:idx [a,b] (0:Int)=some a:=rfl;have d:idx [a,b] (1:Int)=some b:=rfl;have d1:ae .i64 ((0:Int)+1)=1:=aN (by decide) (by decide);have d2:ae .i64 ((1:Int)+1)=2:=aN (by decide) (by decide);rw[Ct,jx];simp only[ag,bg,dr];rw[if_pos (by simp),c];simp only[aa,bx];rw[gk,d1,jx];simp only[ag];rw[if_pos (by simp),d];simp only[aa,bx];rw[gk,d2,jx,ag,if_neg (by simp)];simp only[aa,cI];rw[jy];simp only[ag,bg,dr];rw[if_pos (by simp),c];simp only[aa];rw[if_neg (by simp),d1,jy];simp only[ag];rw[if_pos (by simp),d,c];simp only[aa,bne_iff_ne,ne_eq];rw[gk,d2,jy,ag,if_neg (by simp)];rfl
theorem atS{n:Nat}{a b:List Int}(d:bh a)(e:bh b)(h:a.length=b.length)(c:a.length≤1048576)(g:Hn0 n):Md n (a,b)=some (xM a b,0):=by
 rw[aiq,ank (by omega) (by unfold Hf;rw[gk,gk])];simp only[aa,ag];rw[if_neg (by simp),aoz d e (by omega) (by omega) g];rfl
def Fits(q:List Int)(a:List (List Int)):Prop:=(1≤a.length∧a.length≤512)∧(1≤q.length∧q.length≤64)∧∀i,i<a.length→(a.getD i []).length=q.length
open Classical in
noncomputable def ahe(q:List Int)(a:List (List Int)):Bool:=decide (Fits q a)
open Classical in
theorem wx{q:List Int}{a:List (List Int)}(h:Fits q a):ahe q a=true:=by unfold ahe;exact decide_eq_true h
open Classical in
theorem oE{q:List Int}{a:List (List Int)}(h:¬ Fits q a):ahe q a=false:=by unfold ahe;exact decide_eq_false h
theorem Hg{n:Nat}{q:List Int}{a:List (List Int)}(B:Hn0 n):mZ n (q,a)=some (ahe q a):=by
 rw[ZN];simp only[ag,bx,beq_iff_eq]
 by_cases t:(a.length:Int)=0
 ·rw[if_pos t,oE (fun h=>by have:=h.1.1;omega)]
 rw[if_neg t]
 by_cases u:(a.length:Int)>512
 ·rw[if_pos u,oE (fun h=>by have:=h.1.2;omega)]
 rw[if_neg u]
 by_cases w:(q.length:Int)=0
 ·rw[if_pos w,oE (fun h=>by have:=h.2.1.1;omega)]
 rw[if_neg w]
 by_cases x:(q.length:Int)>64
 ·rw[if_pos x,oE (fun h=>by have:=h.2.1.2;omega)]
 rw[if_neg x];have step:∀k i:Nat,i<a.length→iT n (k+1) (q,a,(a.length:Int),(i:Int),())=if(a.getD i []).length≠q.length then some (Sum.inl (false,()))else iT n k (q,a,(a.length:Int),(i:Int)+1,()):=by
  intro k i d;rw[Cw];simp only[ag,bx,bne_iff_ne,ne_eq];rw[lf,bn d []];simp only[aa]
  by_cases h:(a.getD i []).length=q.length
  ·rw[gk,gk,aN]
  ·rw[lf,if_pos h]
 by_cases b:∃i,i<a.length∧(a.getD i []).length≠q.length
 ·obtain⟨y,l,c⟩:=b;obtain⟨i,d,o,z⟩:=least (p:=fun i=>(a.getD i []).length≠q.length) y c;have g:=ba (L:=fun k i (_:Unit)=>iT n k (q,a,(a.length:Int),i,())) (len:=i) (r:=Sum.inl (false,())) (fun _=>())
   (fun k j e=>by rw[step k j (by omega),if_neg (o j e)]) (fun k=>by rw[step k i (by omega),if_pos d]) n (by omega)
  rw[g,oE (fun h=>c (h.2.2 y l))];rfl
 ·have g:=ba (L:=fun k i (_:Unit)=>iT n k (q,a,(a.length:Int),i,())) (len:=a.length) (r:=Sum.inr ()) (fun _=>())
   (fun k j e=>by rw[step k j e,if_neg (fun h=>b ⟨j,e,h⟩)]) (fun k=>by
    show iT n (k+1) _=_;rw[Cw,ag,if_neg (by simp)]) n (by omega)
  rw[g,wx ⟨by omega,by omega,fun i d=>by
   by_cases h:(a.getD i []).length=q.length
   ·exact h
   ·exact absurd ⟨i,d,h⟩ b⟩]
  rfl
theorem C8{n:Nat}{q:List Int}{a:List (List Int)}(B:Hn0 n):lB n (q,a)=some (!ahe q a):=by
 rw[V5];simp only[ag,bx]
 by_cases t:(a.length:Int)<1
 ·rw[if_pos t,oE (fun h=>by have:=h.1.1;omega)];rfl
 rw[if_neg t]
 by_cases u:(a.length:Int)>512
 ·rw[if_pos u,oE (fun h=>by have:=h.1.2;omega)];rfl
 rw[if_neg u]
 by_cases w:(q.length:Int)<1
 ·rw[if_pos w,oE (fun h=>by have:=h.2.1.1;omega)];rfl
 rw[if_neg w]
 by_cases x:(q.length:Int)>64
 ·rw[if_pos x,oE (fun h=>by have:=h.2.1.2;omega)];rfl
 rw[if_neg x];have step:∀k i:Nat,i<a.length→ib n (k+1) (q,a,(i:Int),())=if(a.getD i []).length≠q.length then some (Sum.inl (true,()))else ib n k (q,a,(i:Int)+1,()):=by
  intro k i d;rw[AW];simp only[ag,bx,bne_iff_ne,ne_eq];rw[lf,bn d []];simp only[aa]
  by_cases h:(a.getD i []).length=q.length
  ·rw[gk,gk,aN]
  ·rw[lf,if_pos h]
 by_cases b:∃i,i<a.length∧(a.getD i []).length≠q.length
 ·obtain⟨y,l,c⟩:=b;obtain⟨i,d,o,z⟩:=least (p:=fun i=>(a.getD i []).length≠q.length) y c;have g:=ba (L:=fun k i (_:Unit)=>ib n k (q,a,i,())) (len:=i) (r:=Sum.inl (true,())) (fun _=>())
   (fun k j e=>by rw[step k j (by omega),if_neg (o j e)]) (fun k=>by rw[step k i (by omega),if_pos d]) n (by omega)
  rw[g,oE (fun h=>c (h.2.2 y l))];rfl
 ·have g:=ba (L:=fun k i (_:Unit)=>ib n k (q,a,i,())) (len:=a.length) (r:=Sum.inr ()) (fun _=>())
   (fun k j e=>by rw[step k j e,if_neg (fun h=>b ⟨j,e,h⟩)]) (fun k=>by
    show ib n (k+1) _=_;rw[AW,ag,if_neg (by simp)]) n (by omega)
  rw[g,wx ⟨by omega,by omega,fun i d=>by
   by_cases h:(a.getD i []).length=q.length
   ·exact h
   ·exact absurd ⟨i,d,h⟩ b⟩]
  rfl
def xh(a:List (List Int)):Prop:=∀r∈a,bh r
theorem xh.at{rows:List (List Int)}(h:xh rows)(i:Nat):bh (rows.getD i []):=by
 by_cases hi:i<rows.length
 ·rw[aV hi];exact h _ (am hi)
 ·rw[aB,bd (by omega)];exact fun x j=>(by cases j)
def pK(q:List Int)(a:List (List Int))(s:Int):List Int:=dL (fun i=>(cq (xM q (a.getD i [])) s).1) a.length
theorem Wo{q:List Int}{a:List (List Int)}(d:bh q)(c:xh a)(b:Fits q a)(i:Nat): -9223372036854775808≤xM q (a.getD i [])∧xM q (a.getD i [])≤9223372036854775807:=by
 have e:=ak6 d (c.at i);have g:=b.2.1.2;omega
theorem XR{q:List Int}{a:List (List Int)}{s:Int}(d:bh q)(c:xh a)(b:Fits q a):ir (pK q a s):=by
 intro x e;obtain⟨i,_,rfl⟩:=iO e;have:=Wo d c b i;exact ad1 this.1 this.2
theorem age{n:Nat}{q:List Int}{a:List (List Int)}{s:Int}(j:bh q)(g:xh a)(c:Fits q a)(t:0≤s)(l:s≤31)(h:Hn0 n):qQ n (q,a,s)=some (pK q a s,0):=by
 rw[Pv,Hg h,wx c];have g1:=c.1;have p:=c.2.1;simp only[aa,ag,bx];rw[if_neg (by simp),gk,gk];have d:=ba (L:=fun k i o=>jb n k (q,s,o,a,(a.length:Int),i,())) (len:=a.length) (r:=(pK q a s,())) (fun i=>dL (fun i=>(cq (xM q (a.getD i [])) s).1) i) ?_ ?_ n (by omega)
 ·rw[eF]at d;rw[d];rfl
 ·intro k i e;show jb n (k+1) _=_;rw[w7];simp only[ag,bx];have b:=Wo j g c i;rw[lf,bn e []];simp only[aa];rw[atS j (g.at i) (c.2.2 i e).symm (by omega) h];simp only[aa];rw[mT b.1 b.2];simp only[aa];rw[fv (fun i=>(cq (xM q (a.getD i [])) s).1) (by unfold room;omega) (by unfold room;omega),aN];rfl
 ·intro k;show jb n (k+1) _=_;rw[w7,ag,if_neg (by simp)];rfl
theorem ajo{n:Nat}{q:List Int}{a:List (List Int)}{s:Int}(j:bh q)(g:xh a)(c:Fits q a)(t:0≤s)(l:s≤31)(h:Hn0 n):td n (q,a,s)=some (pK q a s,0):=by
 rw[SG,C8 h,wx c];have g1:=c.1;have p:=c.2.1;simp only[aa,ag,bx];rw[if_neg (by simp),gk,gk];have d:=ba (L:=fun k i o=>jU n k (q,a,s,o,i,())) (len:=a.length) (r:=(pK q a s,())) (fun i=>dL (fun i=>(cq (xM q (a.getD i [])) s).1) i) ?_ ?_ n (by omega)
 ·rw[eF]at d;rw[d];rfl
 ·intro k i e;show jU n (k+1) _=_;rw[yk];simp only[ag,bx];have b:=Wo j g c i;rw[lf,bn e []];simp only[aa];rw[ag5 j (g.at i) (c.2.2 i e).symm (by omega) h];simp only[aa];rw[pk (by omega) b.1 b.2];simp only[aa];rw[fv (fun i=>(cq (xM q (a.getD i [])) s).1) (by unfold room;omega) (by unfold room;omega),aN];rfl
 ·intro k;show jU n (k+1) _=_;rw[yk,ag,if_neg (by simp)];rfl
noncomputable def ad2(q:List Int)(b a:List (List Int))(s:Int):List Int:=PP (fp (pK q b s)) a q.length
theorem Fits.rows{q:List Int}{rows:List (List Int)}(h:Fits q rows)(i:xh rows):Rows rows q.length:=⟨h.1,h.2.2,i.at⟩
theorem alh{n:Nat}{q:List Int}{b a:List (List Int)}{s:Int}(i:bh q)(h:xh b)(l:xh a)(c:Fits q b)(g:Fits q a)(p:a.length=b.length)(j:0≤s)(e:s≤31)(d:Hn0 n):vH n (q,b,a,s)=some (ad2 q b a s,0):=by
 have g1:=c.1;have o:=c.2.1;have k:(pK q b s).length=b.length:=by simp[pK]
 rw[VB,age i h c j e d];simp only[aa,ag,bne_iff_ne,ne_eq];rw[if_neg (by simp),gk,Hg d,wx g];simp only[aa];rw[if_neg (by simp),ajm (XR i h c) (by omega) (by omega) d];simp only[aa];rw[if_neg (by simp),ang (D3 (by omega) (by omega)) (g.rows l) (by simp[fp];omega) (by omega) d];rfl
theorem anl{n:Nat}{q:List Int}{b a:List (List Int)}{s:Int}(i:bh q)(h:xh b)(l:xh a)(c:Fits q b)(g:Fits q a)(p:a.length=b.length)(j:0≤s)(e:s≤31)(d:Hn0 n):y4 n (q,b,a,s)=some (ad2 q b a s,0):=by
 have g1:=c.1;have o:=c.2.1;have k:(pK q b s).length=b.length:=by simp[pK]
 rw[aah,ajo i h c j e d];simp only[aa,ag,bne_iff_ne,ne_eq];rw[if_neg (by simp),gk,C8 d,wx g];simp only[aa];rw[if_neg (by simp),agd (XR i h c) (by omega) (by omega) d];simp only[aa];rw[ale (D3 (by omega) (by omega)) (g.rows l) (by simp[fp];omega) (by omega) d];rfl
def Bl(b:List (List Int))(a size:Nat):List (List Int):=dL (fun i=>((b.getD i []).drop a).take size) b.length
theorem ajp{b:List (List Int)}(h:xh b)(a size:Nat):xh (Bl b a size):=by
 intro r c;obtain⟨i,_,rfl⟩:=iO c;exact(h.at i).sub a size
theorem uc{l:List Int}{a b:Nat}(h:a+b≤l.length:=by omega):slc l (a:Int) ((a:Int)+(b:Int))=some ((l.drop a).take b):=by
 unfold slc;rw[if_pos ⟨by omega,by omega,by omega⟩];congr 1;rw[show((a:Int)+(b:Int)).toNat=a+b by omega,ax,List.drop_take];congr 1;omega
theorem ad3{n:Nat}{b:List (List Int)}{a size m:Nat}(e:b.length≤512)(g:∀i,i<b.length→(b.getD i []).length=m)(j:a+size≤m)(hm:m≤1000000)(l:Hn0 n):nD n (b,(a:Int),(size:Int))=some (Bl b a size):=by
 rw[Pt];have c:=ba (L:=fun k i o=>ja n k ((a:Int),(size:Int),o,b,(b.length:Int),i,())) (len:=b.length) (r:=(Bl b a size,())) (fun i=>dL (fun i=>((b.getD i []).drop a).take size) i) ?_ ?_ n (by omega)
 ·rw[eF]at c;rw[c];rfl
 ·intro k i d;show ja n (k+1) _=_;rw[w6];simp only[ag,bx];have h:=g i d;rw[lf,bn d []];simp only[aa];rw[aN (x:=(a:Int)+(size:Int)),uc];simp only[aa];rw[fv (fun i=>((b.getD i []).drop a).take size) (by unfold room;omega) (by unfold room;omega),aN];rfl
 ·intro k;show ja n (k+1) _=_;rw[w6,ag,if_neg (by simp)];rfl
def ML(g:Nat→List Int):Nat→List Int
 |0=>[]
 |h+1=>ML g h++g h
theorem ad4{g:Nat→List Int}{p:Int→Prop}(b:∀i,∀x∈g i,p x):∀h,∀x∈ML g h,p x
 |0,x,a=>by cases a
 |h+1,x,a=>by
  rcases List.mem_append.1 a with a |a
  ·exact ad4 b h x a
  ·exact b h x a
abbrev kq:=List (List Int×List Int)
def dp(aQ:kq):List (List Int):=dL (fun i=>(aQ.getD i ([],[])).1) aQ.length
def valuesOf(aQ:kq):List (List Int):=dL (fun i=>(aQ.getD i ([],[])).2) aQ.length
noncomputable def p5(q:List Int)(b a:List (List Int))(sz:Nat)(s:Int)(h:Nat):List Int:=ad2 ((q.drop (h*sz)).take sz) (Bl b (h*sz) sz) (Bl a (h*sz) sz) s
open Classical in
noncomputable def yu(q:List Int)(i6:Int)(aQ:kq)(s:Int):List Int×Int:=
 if i6<1∨(q.length:Int) % i6≠0 then([],190)else if ¬ (Fits q (dp aQ)∧Fits q (valuesOf aQ))then([],191)else if s<0∨s>31 then([],20)else
  (ML (p5 q (dp aQ) (valuesOf aQ) (q.length/i6.toNat) s) i6.toNat,0)
theorem C9{q:List Int}{sz H h:Nat}(a:q.length=H*sz)(hh:h<H):((q.drop (h*sz)).take sz).length=sz∧h*sz+sz≤q.length:=by
 have:(h+1)*sz≤H*sz:=cv sz hh;rw[Nat.succ_mul]at this;refine⟨by simp;omega,by omega⟩
theorem Tg{q:List Int}{a:List (List Int)}{sz H h:Nat}(c:Fits q a)(e:q.length=H*sz)(hh:h<H)(g:1≤sz):Fits ((q.drop (h*sz)).take sz) (Bl a (h*sz) sz):=by
 have d:=C9 e hh;have j:=c.2.1;refine⟨by simpa[Bl]using c.1,by omega,fun i b=> ?_⟩;have b:i<a.length:=by simpa[Bl]using b
 unfold Bl;rw[po _ b];have:=c.2.2 i b;rw[d.1,aC,dE];omega
theorem Da{q:List Int}{b a:List (List Int)}{sz:Nat}{s:Int}{h:Nat}:(p5 q b a sz s h).length=((q.drop (h*sz)).take sz).length:=by simp[p5,ad2,PP]
theorem anm{q:List Int}{b a:List (List Int)}{sz:Nat}{s:Int}{h:Nat}:bh (p5 q b a sz s h):=by
 intro x c;obtain⟨i,_,rfl⟩:=iO c;exact awl _
theorem Mi{g:Nat→List Int}{m H:Nat}(a:∀i,i<H→(g i).length=m):∀h,h≤H→(ML g h).length=h*m
 |0,_=>by simp[ML]
 |h+1,b=>by simp only[ML,ah,Mi a h (by omega),a h (by omega),Nat.succ_mul]
theorem ali{g:Nat→List Int}{m H h:Nat}(a:∀i,i<H→(g i).length=m)(hh:h<H)(b:(h+1)*m≤1000000):app 1 (ML g h) (g h)=some (ML g (h+1)):=by
 unfold app room;rw[Nat.succ_mul]at b;rw[Mi a h (by omega),a h hh,if_pos ⟨by omega,by omega⟩];rfl
theorem alj{n:Nat}{q:List Int}{i6 s:Int}{aQ:kq}(R:bh q)(N:∀p∈aQ,bh p.1∧bh p.2)(S:q.length≤1000000000)(Q:aQ.length≤1000000000)(t:Hn0 n):vJ n (q,i6,aQ,s)=some (yu q i6 aQ s):=by
 have F:xh (dp aQ):=by
  intro r I;obtain⟨i,d,rfl⟩:=iO I;rw[aV d];exact(N _ (am d)).1
 have J:xh (valuesOf aQ):=by
  intro r I;obtain⟨i,d,rfl⟩:=iO I;rw[aV d];exact(N _ (am d)).2
 rw[VC];unfold yu;simp only[ag,bx,bne_iff_ne,ne_eq]
 by_cases y:i6<1
 ·rw[if_pos y,if_pos (.inl y)]
 rw[if_neg y,C5];simp only[aa]
 by_cases w:¬ (q.length:Int) % i6=0
 ·rw[if_pos w,if_pos (.inr w)]
 have w:(q.length:Int) % i6=0:=by omega
 rw[if_neg (by simpa using w),if_neg (show ¬ (i6<1∨¬ (q.length:Int) % i6=0)by omega)];have K:=ba (L:=fun k i (o:List (List Int)×List (List Int))=>kH n k (q,i6,s,o.1,o.2,aQ,(aQ.length:Int),i,())) (len:=aQ.length) (r:=(q,i6,s,dp aQ,valuesOf aQ,())) (fun i=>(dL (fun i=>(aQ.getD i ([],[])).1) i,dL (fun i=>(aQ.getD i ([],[])).2) i)) ?_ ?_ n (by omega)
 ·simp only[eF]at K;rw[K];simp only[aa];rw[Hg t];simp only[aa]
  by_cases e:Fits q (dp aQ)
  ·rw[wx e,if_neg (by simp),Hg t];simp only[aa]
   by_cases g:Fits q (valuesOf aQ)
   ·rw[wx g,if_neg (by simp),if_neg (show ¬ ¬ (Fits q (dp aQ)∧Fits q (valuesOf aQ))from fun h=>h ⟨e,g⟩)]
    by_cases z:s<0
    ·rw[if_pos z,if_pos (.inl z)]
    rw[if_neg z]
    by_cases B:s>31
    ·rw[if_pos B,if_pos (.inr B)]
    rw[if_neg B,gk];obtain⟨H,rfl⟩:∃H:Nat,i6=(H:Int):=⟨i6.toNat,by omega⟩;rw[ax];have T:=e.2.1;have M:q.length % H=0:=by omega
    have b:q.length=H*(q.length/H):=by have:=Nat.div_add_mod q.length H;omega
    obtain⟨a,u⟩:∃a,a=q.length/H:=⟨_,rfl⟩;rw[←u]at b ⊢;have c:1≤a:=by
     by_cases h:a=0
     ·rw[h]at b;omega
     ·omega
    rw[nw (by omega) (by omega) (by omega),show(q.length:Int)/(H:Int)=(a:Int)by rw[u];simp];simp only[aa];have l:∀i,i<H→(p5 q (dp aQ) (valuesOf aQ) a s i).length=a:=fun i d=>by rw[Da];exact(C9 b d).1
    have P:H≤q.length:=by rw[b];exact cy _ c
    have E:=ba (L:=fun k (h:Int) o=>jR n k (q,s,dp aQ,valuesOf aQ,(),o,(h*(a:Int),()),((a:Int),()),())) (len:=H) (r:=Sum.inr (ML (p5 q (dp aQ) (valuesOf aQ) a s) H,())) (fun h=>ML (p5 q (dp aQ) (valuesOf aQ) a s) h) ?_ ?_ n (by omega)
    ·rw[show ML (p5 q (dp aQ) (valuesOf aQ) a s) 0=[]from rfl]at E;simp only[Int.zero_mul]at E;rw[E];rfl
    ·intro k h j;show jR n (k+1) _=_;rw[x7];simp only[ag,bx];have b1:=C9 b j;have O:(h+1)*a≤H*a:=cv a j;rw[Nat.succ_mul]at O;have D:(h:Int)*(a:Int)=((h*a:Nat):Int):=by simp
     rw[D,lf,aN (x:=((h*a:Nat):Int)+(a:Int)),uc];simp only[aa];rw[ad3 (m:=q.length) e.1.2 e.2.2 (by omega) (by omega) t];simp only[aa];rw[ad3 (m:=q.length) g.1.2 g.2.2 (by omega) (by omega) t];simp only[aa];rw[alh (R.sub _ _) (ajp F _ _) (ajp J _ _) (Tg e b j c) (Tg g b j c) (by simp[Bl,dp,valuesOf]) (by omega) (by omega) t];simp only[aa,bne_self_eq_false,cn,if_false];rw[show ad2 ((q.drop (h*a)).take a) (Bl (dp aQ) (h*a) a) (Bl (valuesOf aQ) (h*a) a) s=p5 q (dp aQ) (valuesOf aQ) a s h from rfl];rw[ali l j (by rw[Nat.succ_mul];omega)];simp only[aa];rw[show((h*a:Nat):Int)+(a:Int)=((h:Int)+1)*(a:Int)by rw[Int.add_mul];simp]
    ·intro k;show jR n (k+1) _=_;have D:(H:Int)*(a:Int)=((H*a:Nat):Int):=by simp
     rw[x7,ag,D,if_neg (by simp;omega)]
   ·rw[oE g,if_pos (by simp),if_pos (show ¬ (Fits q (dp aQ)∧Fits q (valuesOf aQ))from fun h=>g h.2)]
  ·rw[oE e,if_pos (by simp),if_pos (show ¬ (Fits q (dp aQ)∧Fits q (valuesOf aQ))from fun h=>e h.1)]
 ·intro k i d;show kH n (k+1) _=_;rw[Av];simp only[ag,bx];rw[lf,bn d ([],[])];simp only[aa];rw[fv (fun i=>(aQ.getD i ([],[])).1) (by unfold room;omega) (by unfold room;omega)];simp only[aa];rw[fv (fun i=>(aQ.getD i ([],[])).2) (by unfold room;omega) (by unfold room;omega),aN];rfl
 ·intro k;show kH n (k+1) _=_;rw[Av,ag,if_neg (by simp)];rfl
theorem apE{n:Nat}{q:List Int}{H s sz h:Nat}{aQ:kq}{out:List Int}{c:Int}(f1:Fits q (dp aQ))(f2:Fits q (valuesOf aQ))(a:q.length=H*sz)(hh:h<H)(B:Hn0 n):
  jr n n (q,(H:Int),aQ,c,dp aQ,valuesOf aQ,(sz:Int),out,(h:Int),[],[],0,())=some (q,(H:Int),aQ,c,dp aQ,valuesOf aQ,(sz:Int),out,(h:Int),Bl (dp aQ) (h*sz) sz,Bl (valuesOf aQ) (h*sz) sz,()):=by
 have t:aQ.length≤512:=by have:=f1.1.2;simpa[dp]using this
 have d:(dp aQ).length=aQ.length:=by simp[dp]
 have e:(valuesOf aQ).length=aQ.length:=by simp[valuesOf]
 have y:=f1.2.1;have b1:=C9 a hh;have g:(h:Int)*(sz:Int)=((h*sz:Nat):Int):=by simp
 have l:((h:Int)+1)*(sz:Int)=((h*sz:Nat):Int)+(sz:Int):=by rw[Int.add_mul,g];simp
 have j:=ba (L:=fun k i (o:List (List Int)×List (List Int))=>jr n k (q,(H:Int),aQ,c,dp aQ,valuesOf aQ,(sz:Int),out,(h:Int),o.1,o.2,i,())) (len:=aQ.length)
  (r:=(q,(H:Int),aQ,c,dp aQ,valuesOf aQ,(sz:Int),out,(h:Int),Bl (dp aQ) (h*sz) sz,Bl (valuesOf aQ) (h*sz) sz,())) (fun i=>(dL (fun i=>(((dp aQ).getD i []).drop (h*sz)).take sz) i,dL (fun i=>(((valuesOf aQ).getD i []).drop (h*sz)).take sz) i)) ?_ ?_ n (by omega)
 ·simp only[eF]at j;exact j
 ·intro k i z;show jr n (k+1) _=_;rw[AZ];simp only[ag,bx];have u:=f1.2.2 i (by omega);have w:=f2.2.2 i (by omega);have b:H≤q.length∨sz=0:=by
   by_cases p:sz=0
   ·exact .inr p
   ·exact .inl (by rw[a];exact cy _ (by omega))
  rw[lf,bn (show i<(dp aQ).length by omega) []];simp only[aa];rw[aN (x:=(h:Int)*(sz:Int))];rw[show ae .i64 (ae .i64 ((h:Int)+1)*(sz:Int))=((h*sz:Nat):Int)+(sz:Int)by
   rcases b with b |b
   ·rw[aN (x:=(h:Int)+1),l,aN]
   ·subst b;simp only[Nat.mul_zero,Int.natCast_zero,Int.mul_zero,Int.add_zero];exact aN]
  rw[g,uc];simp only[aa];rw[fv (fun i=>(((dp aQ).getD i []).drop (h*sz)).take sz) (by unfold room;omega) (by unfold room;omega)];simp only[aa];rw[bn (show i<(valuesOf aQ).length by omega) []];simp only[aa];rw[uc];simp only[aa];rw[fv (fun i=>(((valuesOf aQ).getD i []).drop (h*sz)).take sz) (by unfold room;omega) (by unfold room;omega),aN];rfl
 ·intro k;show jr n (k+1) _=_;rw[AZ,ag,if_neg (by simp)];show some (_,_,_,_,_,_,_,_,_,dL _ _,dL _ _,())=_;unfold Bl;rw[d,e]
theorem ann{n:Nat}{q:List Int}{i6 s:Int}{aQ:kq}(S:bh q)(N:∀p∈aQ,bh p.1∧bh p.2)(T:q.length≤1000000000)(R:aQ.length≤1000000000)(w:Hn0 n):y5 n (q,i6,aQ,s)=some (yu q i6 aQ s):=by
 have D:xh (dp aQ):=by
  intro r E;obtain⟨i,d,rfl⟩:=iO E;rw[aV d];exact(N _ (am d)).1
 have F:xh (valuesOf aQ):=by
  intro r E;obtain⟨i,d,rfl⟩:=iO E;rw[aV d];exact(N _ (am d)).2
 rw[aai];unfold yu;simp only[ag,bx,bne_iff_ne,ne_eq]
 by_cases y:i6<1
 ·rw[if_pos y,if_pos (.inl y)]
 rw[if_neg y,C5];simp only[aa]
 by_cases u:¬ (q.length:Int) % i6=0
 ·rw[if_pos u,if_pos (.inr u)]
 have u:(q.length:Int) % i6=0:=by omega
 rw[if_neg (by simpa using u),if_neg (show ¬ (i6<1∨¬ (q.length:Int) % i6=0)by omega)];have J:=ba (L:=fun k i (o:List (List Int)×List (List Int))=>mm n k (q,i6,aQ,s,o.1,o.2,i,())) (len:=aQ.length) (r:=(q,i6,aQ,s,dp aQ,valuesOf aQ,())) (fun i=>(dL (fun i=>(aQ.getD i ([],[])).1) i,dL (fun i=>(aQ.getD i ([],[])).2) i)) ?_ ?_ n (by omega)
 ·simp only[eF]at J;rw[J];simp only[aa];rw[C8 w];simp only[aa]
  by_cases e:Fits q (dp aQ)
  ·rw[wx e,if_neg (by simp),C8 w];simp only[aa]
   by_cases g:Fits q (valuesOf aQ)
   ·rw[wx g,if_neg (by simp),if_neg (show ¬ ¬ (Fits q (dp aQ)∧Fits q (valuesOf aQ))from fun h=>h ⟨e,g⟩)]
    by_cases z:s<0
    ·rw[if_pos z,if_pos (.inl z)]
    rw[if_neg z]
    by_cases B:s>31
    ·rw[if_pos B,if_pos (.inr B)]
    rw[if_neg B,gk];obtain⟨H,rfl⟩:∃H:Nat,i6=(H:Int):=⟨i6.toNat,by omega⟩;rw[ax];have U:=e.2.1;have M:q.length % H=0:=by omega
    have b:q.length=H*(q.length/H):=by have:=Nat.div_add_mod q.length H;omega
    obtain⟨a,t⟩:∃a,a=q.length/H:=⟨_,rfl⟩;rw[←t]at b ⊢;have c:1≤a:=by
     by_cases h:a=0
     ·rw[h]at b;omega
     ·omega
    rw[nw (by omega) (by omega) (by omega),show(q.length:Int)/(H:Int)=(a:Int)by rw[t];simp];simp only[aa];have l:∀i,i<H→(p5 q (dp aQ) (valuesOf aQ) a s i).length=a:=fun i d=>by rw[Da];exact(C9 b d).1
    have Q:H≤q.length:=by rw[b];exact cy _ c
    have K:=ba (L:=fun k (h:Int) o=>kM n k (q,(H:Int),aQ,s,dp aQ,valuesOf aQ,(a:Int),o,h,())) (len:=H) (r:=(ML (p5 q (dp aQ) (valuesOf aQ) a s) H,())) (fun h=>ML (p5 q (dp aQ) (valuesOf aQ) a s) h) ?_ ?_ n (by omega)
    ·rw[show ML (p5 q (dp aQ) (valuesOf aQ) a s) 0=[]from rfl]at K;rw[K];rfl
    ·intro k h j;show kM n (k+1) _=_;rw[AY];simp only[ag,bx];have b1:=C9 b j;have O:(h+1)*a≤H*a:=cv a j;rw[Nat.succ_mul]at O;have I:(h:Int)*(a:Int)=((h*a:Nat):Int):=by simp
     have P:((h:Int)+1)*(a:Int)=((h*a:Nat):Int)+(a:Int):=by rw[Int.add_mul,I];simp
     rw[lf,apE (s:=0) e g b j w];simp only[aa];rw[aN (x:=(h:Int)*(a:Int)),aN (x:=(h:Int)+1),I,P,aN (x:=((h*a:Nat):Int)+(a:Int)),uc];simp only[aa];rw[anl (S.sub _ _) (ajp D _ _) (ajp F _ _) (Tg e b j c) (Tg g b j c) (by simp[Bl,dp,valuesOf]) (by omega) (by omega) w];simp only[aa];rw[show ad2 ((q.drop (h*a)).take a) (Bl (dp aQ) (h*a) a) (Bl (valuesOf aQ) (h*a) a) s=p5 q (dp aQ) (valuesOf aQ) a s h from rfl];rw[ali l j (by rw[Nat.succ_mul];omega)];rfl
    ·intro k;show kM n (k+1) _=_;rw[AY,ag,if_neg (by simp)]
   ·rw[oE g,if_pos (by simp),if_pos (show ¬ (Fits q (dp aQ)∧Fits q (valuesOf aQ))from fun h=>g h.2)]
  ·rw[oE e,if_pos (by simp),if_pos (show ¬ (Fits q (dp aQ)∧Fits q (valuesOf aQ))from fun h=>e h.1)]
 ·intro k i d;show mm n (k+1) _=_;rw[CN];simp only[ag,bx];rw[lf,bn d ([],[])];simp only[aa];rw[fv (fun i=>(aQ.getD i ([],[])).1) (by unfold room;omega) (by unfold room;omega)];simp only[aa];rw[fv (fun i=>(aQ.getD i ([],[])).2) (by unfold room;omega) (by unfold room;omega),aN];rfl
 ·intro k;show mm n (k+1) _=_;rw[CN,ag,if_neg (by simp)];rfl
theorem Mj{q:List Int}{i6 s:Int}{aQ:kq}:bh (yu q i6 aQ s).1:=by
 unfold yu
 split
 ·exact fun x a=>(by cases a)
 ·split
  ·exact fun x a=>(by cases a)
  ·split
   ·exact fun x a=>(by cases a)
   ·exact ad4 (p:=fun x=> -128≤x∧x≤127) (fun i x a=>anm x a) _
theorem apF{q:List Int}{i6 s:Int}{aQ:kq}:(yu q i6 aQ s).1.length≤q.length:=by
 unfold yu
 split
 ·simp
 ·rename_i c
  split
  ·simp
  ·split
   ·simp
   ·obtain⟨H,rfl⟩:∃H:Nat,i6=(H:Int):=⟨i6.toNat,by omega⟩;rw[ax];have a:q.length=H*(q.length/H):=by have:=Nat.div_add_mod q.length H;omega
    show(ML _ H).length≤_;rw[Mi (m:=q.length/H) (H:=H) (fun i b=>by rw[Da];exact(C9 a b).1) H (az _)];omega
abbrev FP:=List Int×List Int×List Int×List Int×List Int×List Int×Int×Int×Int×Int×Int×List Int×List Int×List Int×Int×Int×Int
abbrev P6:=Int×List Int×List Int×List Int
structure OkB (b:FP):Prop where
 g1:bh b.1
 q:bh b.2.1
 k:bh b.2.2.1
 v:bh b.2.2.2.1
 o:bh b.2.2.2.2.1
 g2:bh b.2.2.2.2.2.1
 m1:bh b.2.2.2.2.2.2.2.2.2.2.2.1
 m2:bh b.2.2.2.2.2.2.2.2.2.2.2.2.1
 m3:bh b.2.2.2.2.2.2.2.2.2.2.2.2.2.1
structure OkF (f:P6):Prop where
 cos:bh f.2.1
 sin:bh f.2.2.1
 fK:bh f.2.2.2
 cl:f.2.1.length≤1000000000
 sl:f.2.2.1.length≤1000000000
def BG(f:P6)(d:Nat)(p:Int):Int×List Int×List Int×Int:=
 if f.1<1∨(d:Int) % f.1≠0 then(0,[],[],200)else
 let a:=d/f.1.toNat
 if a<2∨a % 2≠0 then(0,[],[],200)else
 if p<0∨p≥((f.2.1.length/(a/2):Nat):Int)∨p≥((f.2.2.1.length/(a/2):Nat):Int)then(0,[],[],201)else
  ((a:Int),(f.2.1.drop (p.toNat*(a/2))).take (a/2),(f.2.2.1.drop (p.toNat*(a/2))).take (a/2),0)
theorem zv{l half p:Nat}(h:p<l/half):p*half+half≤l:=by
 have a:(p+1)*half≤(l/half)*half:=cv half h;have b:=Nat.div_mul_le_self l half;rw[Nat.succ_mul]at a;omega
theorem Th{n:Nat}{f:P6}{x:List Int}{p:Int}(hx:x.length≤1000000000)(o:OkF f):oL n (f,x,p)=some (BG f x.length p):=by
 rw[Sn];unfold BG;simp only[ag,bx,bne_iff_ne,ne_eq,beq_iff_eq]
 by_cases c:f.1<1
 ·rw[if_pos c,if_pos (.inl c)]
 rw[if_neg c,C5];simp only[aa]
 by_cases d:¬ (x.length:Int) % f.1=0
 ·rw[if_pos d,if_pos (.inr d)]
 rw[if_neg d,if_neg (show ¬ (f.1<1∨¬ (x.length:Int) % f.1=0)by omega),nw (by omega) (by omega) (by omega)];simp only[aa];obtain⟨H,t⟩:∃H:Nat,f.1=(H:Int):=⟨f.1.toNat,by omega⟩;rw[t,ax];obtain⟨a,b⟩:∃a,a=x.length/H:=⟨_,rfl⟩;have q:a≤x.length:=by rw[b];exact Nat.div_le_self _ _
 rw[←b,show(x.length:Int)/(H:Int)=(a:Int)by rw[b];simp]
 by_cases i:(a:Int)=0
 ·rw[if_pos i,if_pos (.inl (by omega))]
 rw[if_neg i,C5];simp only[aa]
 by_cases j:¬ (a:Int) % 2=0
 ·rw[if_pos j,if_pos (.inr (by omega))]
 rw[if_neg j,if_neg (show ¬ (a<2∨¬ a % 2=0)by omega),nw (by omega) (by omega) (by omega)];simp only[aa];obtain⟨half,y⟩:∃half,half=a/2:=⟨_,rfl⟩;rw[←y,show(a:Int)/2=(half:Int)by omega];have w:=o.cl;have z:=o.sl
 by_cases e:p<0
 ·rw[if_pos e,if_pos (.inl e)]
 rw[if_neg e,nw (by omega) (by omega) (by omega)];simp only[aa];rw[show(f.2.1.length:Int)/(half:Int)=((f.2.1.length/half:Nat):Int)by simp]
 by_cases g:p≥((f.2.1.length/half:Nat):Int)
 ·rw[if_pos g,if_pos (.inr (.inl g))]
 rw[if_neg g,nw (by omega) (by omega) (by omega)];simp only[aa];rw[show(f.2.2.1.length:Int)/(half:Int)=((f.2.2.1.length/half:Nat):Int)by simp]
 by_cases h:p≥((f.2.2.1.length/half:Nat):Int)
 ·rw[if_pos h,if_pos (.inr (.inr h))]
 rw[if_neg h,gk];obtain⟨P,rfl⟩:∃P:Nat,p=(P:Int):=⟨p.toNat,by omega⟩;rw[ax];have r1:=zv (l:=f.2.1.length) (half:=half) (p:=P) (by omega);have B:=zv (l:=f.2.2.1.length) (half:=half) (p:=P) (by omega);have u:P≤f.2.1.length:=by have:=Nat.div_le_self f.2.1.length half;omega
 have k:(P:Int)*(half:Int)=((P*half:Nat):Int):=by simp
 have r:((P:Int)+1)*(half:Int)=((P*half:Nat):Int)+(half:Int):=by rw[Int.add_mul,k];simp
 rw[aN (x:=(P:Int)+1),k,r,aN,aN,uc];simp only[aa];rw[uc];rfl
theorem Ti{n:Nat}{f:P6}{d:Nat}{p:Int}(hx:d≤1000000000)(o:OkF f):oY n (f,(d:Int),p)=some (BG f d p):=by
 rw[SC];unfold BG;simp only[ag,bx,bne_iff_ne,ne_eq]
 by_cases c:f.1<1
 ·rw[if_pos c,if_pos (.inl c)]
 rw[if_neg c,C5];simp only[aa]
 by_cases e:¬ (d:Int) % f.1=0
 ·rw[if_pos e,if_pos (.inr e)]
 rw[if_neg e,if_neg (show ¬ (f.1<1∨¬ (d:Int) % f.1=0)by omega),nw (by omega) (by omega) (by omega)];simp only[aa];obtain⟨H,t⟩:∃H:Nat,f.1=(H:Int):=⟨f.1.toNat,by omega⟩;rw[t,ax];obtain⟨a,b⟩:∃a,a=d/H:=⟨_,rfl⟩;have q:a≤d:=by rw[b];exact Nat.div_le_self _ _
 rw[←b,show(d:Int)/(H:Int)=(a:Int)by rw[b];simp]
 by_cases j:(a:Int)<2
 ·rw[if_pos j,if_pos (.inl (by omega))]
 rw[if_neg j,C5];simp only[aa]
 by_cases k:¬ (a:Int) % 2=0
 ·rw[if_pos k,if_pos (.inr (by omega))]
 rw[if_neg k,if_neg (show ¬ (a<2∨¬ a % 2=0)by omega),nw (by omega) (by omega) (by omega)];simp only[aa];obtain⟨half,w⟩:∃half,half=a/2:=⟨_,rfl⟩;rw[←w,show(a:Int)/2=(half:Int)by omega];have u:=o.cl;have y:=o.sl
 by_cases g:p<0
 ·rw[if_pos g,if_pos (.inl g)]
 rw[if_neg g,nw (by omega) (by omega) (by omega)];simp only[aa];rw[show(f.2.1.length:Int)/(half:Int)=((f.2.1.length/half:Nat):Int)by simp]
 by_cases h:p≥((f.2.1.length/half:Nat):Int)
 ·rw[if_pos h,if_pos (.inr (.inl h))]
 rw[if_neg h,nw (by omega) (by omega) (by omega)];simp only[aa];rw[show(f.2.2.1.length:Int)/(half:Int)=((f.2.2.1.length/half:Nat):Int)by simp]
 by_cases i:p≥((f.2.2.1.length/half:Nat):Int)
 ·rw[if_pos i,if_pos (.inr (.inr i))]
 rw[if_neg i,gk];obtain⟨P,rfl⟩:∃P:Nat,p=(P:Int):=⟨p.toNat,by omega⟩;rw[ax];have r1:=zv (l:=f.2.1.length) (half:=half) (p:=P) (by omega);have z:=zv (l:=f.2.2.1.length) (half:=half) (p:=P) (by omega);have r:(P:Int)*(half:Int)=((P*half:Nat):Int):=by simp
 rw[r,aN (x:=((P*half:Nat):Int)),aN (x:=((P*half:Nat):Int)+(half:Int)),uc];simp only[aa];rw[uc];simp only[aa];rw[aN,show 2*(half:Int)=(a:Int)by omega]
theorem aa9{f:P6}{d:Nat}{p:Int}(b:OkF f)(e:d≤1000000000):bh (BG f d p).2.1∧bh (BG f d p).2.2.1∧(BG f d p).1≤9223372036854775807:=by
 have a:bh []:=fun x c=>(by cases c);unfold BG
 split
 ·exact⟨a,a,by simp⟩
 ·simp only
  split
  ·exact⟨a,a,by simp⟩
  ·split
   ·exact⟨a,a,by simp⟩
   ·refine⟨b.cos.sub _ _,b.sin.sub _ _,?_⟩;have:=Nat.div_le_self d f.1.toNat;show((d/f.1.toNat:Nat):Int)≤_;omega
theorem D6{n:Nat}{w h:List Int}{s:Int}(b:bh w)(hh:bh h)(c:h.length≤1000000000)(a:Hn0 n):kE n (w,h,s)=some (dI w h s):=by
 rw[Ps,Fy b hh c a];unfold dI;simp only[aa,ag,bne_iff_ne]
 split
 ·rfl
 ·rw[adS (ke b hh) a];rfl
theorem Oz{n:Nat}{w h:List Int}{s:Int}(b:bh w)(hh:bh h)(a:Hn0 n):nH n (w,h,s)=some (dI w h s):=by
 rw[PA,xg b hh a];unfold dI;simp only[aa,ag,bne_iff_ne]
 split
 ·rfl
 ·rw[S8 (ke b hh) a];rfl
theorem nQ{l fV:List Int}:rD (mO l fV).1:=by
 unfold mO
 split
 ·exact fun x a=>(by cases a)
 ·split
  ·exact fun x a=>(by cases a)
  ·intro x a;obtain⟨i,_,rfl⟩:=iO a;exact pn _
theorem ad5{l fV:List Int}:(mO l fV).1.length≤64:=by
 unfold mO
 split
 ·simp
 ·split
  ·simp
  ·rename_i h;have:=adV (l:=l) (by omega);simp;omega
theorem ahf{x cos sin:List Int}{size:Int}:rD (FB x size cos sin).1:=by
 unfold FB
 split
 ·exact fun x a=>(by cases a)
 ·split
  ·exact fun x a=>(by cases a)
  ·intro x a;obtain⟨i,_,rfl⟩:=iO a;unfold ua
   split
   ·exact pn _
   ·exact pn _
theorem ahg{x cos sin:List Int}{size:Int}:(FB x size cos sin).1.length≤x.length:=by
 unfold FB
 split
 ·simp
 ·split
  ·simp
  ·simp
def lg(w h:List Int)(s size:Int)(cos sin:List Int):List Int×Int:=if(dI w h s).2≠0 then([],(dI w h s).2)else FB (dI w h s).1 size cos sin
theorem Ls{w h:List Int}{s size:Int}{cos sin:List Int}:rD (lg w h s size cos sin).1:=by
 unfold lg
 split
 ·exact fun x a=>(by cases a)
 ·exact ahf
theorem alk{w h:List Int}{s size:Int}{cos sin:List Int}:(lg w h s size cos sin).1.length≤1048576:=by
 unfold lg
 split
 ·simp
 ·exact ei ahg zj
theorem Tj{n:Nat}{w h:List Int}{s size:Int}{cos sin:List Int}(d:bh w)(hh:bh h)(b:bh cos)(c:bh sin)(hz:size≤9223372036854775807)(a:Hn0 n):pb n (w,h,s,size,cos,sin)=some (lg w h s size cos sin):=by
 rw[SF,Oz d hh a];unfold lg;simp only[aa,ag,bne_iff_ne]
 split
 ·rfl
 ·have:=zj (w:=w) (h:=h) (s:=s);rw[anb jG.bh b c hz (by omega) a];rfl
noncomputable def aaZ(b:FP)(f:P6)(x:List Int)(p:Int):(List Int×List Int)×Int:=
 let a:=BG f x.length p
 if a.2.2.2≠0 then(([],[]),a.2.2.2)else
 let h:=mO x b.1
 if h.2≠0 then(([],[]),h.2)else
 let k:=lg b.2.2.1 h.1 b.2.2.2.2.2.2.2.1 a.1 a.2.1 a.2.2.1
 if k.2≠0 then(([],[]),k.2)else
 let v:=dI b.2.2.2.1 h.1 b.2.2.2.2.2.2.2.2.1
 if v.2≠0 then(([],[]),v.2)else((k.1,v.1),0)
theorem anp{n:Nat}{b:FP}{f:P6}{x:List Int}{p:Int}(d:OkB b)(e:OkF f)(hx:x.length≤1000000000)(c:Hn0 n):yH n (b,f,x,p)=some (aaZ b f x p):=by
 rw[ZM,Th hx e];obtain⟨g,i,j⟩:=aa9 (p:=p) e hx;unfold aaZ lg;simp only[aa,ag,bne_iff_ne]
 split
 ·rfl
 ·rw[Ta d.g1 c];have o:=ad5 (l:=x) (fV:=b.1);simp only[aa]
  split
  ·rfl
  ·rw[D6 d.k nQ.bh (by omega) c];have q:=zj (w:=b.2.2.1) (h:=(mO x b.1).1) (s:=b.2.2.2.2.2.2.2.1);simp only[aa]
   by_cases a:(dI b.2.2.1 (mO x b.1).1 b.2.2.2.2.2.2.2.1).2≠0
   ·rw[if_pos a,if_pos a,if_pos a]
   ·rw[if_neg a,if_neg a,ahc jG.bh g i j (by omega) c];simp only[aa]
    split
    ·rfl
    ·rw[D6 d.v nQ.bh (by omega) c];simp only[aa]
     split
     ·rfl
     ·rfl
theorem anq{n:Nat}{b:FP}{f:P6}{x:List Int}{p:Int}(a:OkB b)(d:OkF f)(hx:x.length≤1000000000)(c:Hn0 n):yZ n (b,f,x,p)=some (aaZ b f x p):=by
 rw[aae,Ti hx d];obtain⟨e,g,h⟩:=aa9 (p:=p) d hx;unfold aaZ;simp only[aa,ag,bne_iff_ne]
 split
 ·rfl
 ·rw[Mh a.g1 c];simp only[aa]
  split
  ·rfl
  ·rw[Tj a.k nQ.bh e g h c];simp only[aa]
   split
   ·rfl
   ·rw[Oz a.v nQ.bh c];simp only[aa]
    split
    ·rfl
    ·rfl
theorem ad6{a b:List Int}:ir (S9 a b).1:=by
 unfold S9
 split
 ·exact fun x c=>(by cases c)
 ·split
  ·exact fun x c=>(by cases c)
  ·intro x c;obtain⟨i,_,rfl⟩:=iO c;unfold nP aji
   split
   ·rename_i h;exact h
   ·exact⟨by decide,by decide⟩
noncomputable def pL(b:FP)(f:P6)(x:List Int)(aQ:kq):List Int×Int:=
 let a:=BG f x.length ((aQ.length:Int) -1)
 if a.2.2.2≠0 then([],a.2.2.2)else
 let h:=mO x b.1
 if h.2≠0 then([],h.2)else
 let q:=lg b.2.1 h.1 b.2.2.2.2.2.2.1 a.1 a.2.1 a.2.2.1
 if q.2≠0 then([],q.2)else
 let o:=yu q.1 f.1 aQ b.2.2.2.2.2.2.2.2.2.2.1
 if o.2≠0 then([],o.2)else
 let y:=kx b.2.2.2.2.1 (x.length:Int) o.1
 if y.2≠0 then([],y.2)else
 let z:=ju y.1 b.2.2.2.2.2.2.2.2.2.1
 if z.2≠0 then([],z.2)else S9 x z.1
noncomputable def MM(b:FP)(f:P6)(x:List Int)(aQ:kq):List Int×Int:=
 let y:=pL b f x aQ
 if y.2≠0 then([],y.2)else
 let g:=mO y.1 b.2.2.2.2.2.1
 if g.2≠0 then([],g.2)else
 let d:=nx b.2.2.2.2.2.2.2.2.2.2.2 f.2.2.2 g.1
 if d.2≠0 then([],d.2)else S9 y.1 d.1
theorem alm{b:FP}{f:P6}{x:List Int}{aQ:kq}:ir (pL b f x aQ).1:=by
 have a:ir []:=fun x c=>(by cases c);unfold pL;simp only
 split
 ·exact a
 ·split
  ·exact a
  ·split
   ·exact a
   ·split
    ·exact a
    ·split
     ·exact a
     ·split
      ·exact a
      ·exact ad6
theorem arz{b:FP}{f:P6}{x:List Int}{aQ:kq}:ir (MM b f x aQ).1:=by
 have a:ir []:=fun x c=>(by cases c);unfold MM;simp only
 split
 ·exact a
 ·split
  ·exact a
  ·split
   ·exact a
   ·exact ad6
theorem ajq{n:Nat}{b:FP}{f:P6}{x:List Int}{aQ:kq}(d:OkB b)(i:OkF f)(g:ir x)(hx:x.length≤1000000000)(t:∀p∈aQ,bh p.1∧bh p.2)(e:aQ.length≤1000000000)(a:Hn0 n):sJ n (b,f,x,aQ)=some (pL b f x aQ):=by
 rw[Sq,aN,Th hx i];obtain⟨j,k,r⟩:=aa9 (p:=(aQ.length:Int) -1) i hx;unfold pL lg;simp only[aa,ag,bne_iff_ne]
 split
 ·rfl
 ·rw[Ta d.g1 a];have u:=ad5 (l:=x) (fV:=b.1);simp only[aa]
  split
  ·rfl
  ·rw[D6 d.q nQ.bh (by omega) a];have y:=zj (w:=b.2.1) (h:=(mO x b.1).1) (s:=b.2.2.2.2.2.2.1);simp only[aa]
   by_cases c:(dI b.2.1 (mO x b.1).1 b.2.2.2.2.2.2.1).2≠0
   ·rw[if_pos c,if_pos c,if_pos c]
   ·rw[if_neg c,if_neg c,ahc jG.bh j k r (by omega) a];simp only[aa]
    split
    ·rfl
    ·have z:=ahg (x:=(dI b.2.1 (mO x b.1).1 b.2.2.2.2.2.2.1).1) (cos:=(BG f x.length ((aQ.length:Int) -1)).2.1) (sin:=(BG f x.length ((aQ.length:Int) -1)).2.2.1) (size:=(BG f x.length ((aQ.length:Int) -1)).1);rw[alj ahf.bh t (by omega) e a];simp only[aa]
     split
     ·rfl
     ·have B:=apF (q:=(FB (dI b.2.1 (mO x b.1).1 b.2.2.2.2.2.2.1).1 (BG f x.length ((aQ.length:Int) -1)).1 (BG f x.length ((aQ.length:Int) -1)).2.1 (BG f x.length ((aQ.length:Int) -1)).2.2.1).1) (i6:=f.1) (aQ:=aQ) (s:=b.2.2.2.2.2.2.2.2.2.2.1);rw[Fy d.o Mj (by omega) a];simp only[aa]
      split
      ·rfl
      ·rw[Mg (ke d.o Mj) a];simp only[aa]
       split
       ·rfl
       ·rw[aoB g (PQ (ke d.o Mj)) a];rfl
theorem apH{n:Nat}{b:FP}{f:P6}{x:List Int}{aQ:kq}(a:OkB b)(g:OkF f)(e:ir x)(hx:x.length≤1000000000)(h:∀p∈aQ,bh p.1∧bh p.2)(d:aQ.length≤1000000000)(c:Hn0 n):B4 n (b,f,x,aQ)=some (MM b f x aQ):=by
 rw[acY,ajq a g e hx h d c];unfold MM;simp only[aa,ag,bne_iff_ne]
 split
 ·rfl
 ·rw[Ta a.g2 c];have i:=ad5 (l:=(pL b f x aQ).1) (fV:=b.2.2.2.2.2.1);simp only[aa]
  split
  ·rfl
  ·rw[anj a.m1 a.m2 a.m3 g.fK nQ.bh (by omega) c];simp only[aa]
   split
   ·rfl
   ·rw[aoB alm (XQ a.m3) c];rfl
theorem apI{n:Nat}{b:FP}{f:P6}{x:List Int}{aQ:kq}(c:OkB b)(l:OkF f)(t:ir x)(hx:x.length≤1000000000)(E:∀p∈aQ,bh p.1∧bh p.2)(r:aQ.length≤1000000000)(d:Hn0 n):Ch n (b,f,x,aQ)=some (MM b f x aQ):=by
 obtain⟨y,z,B⟩:=aa9 (p:=(aQ.length:Int) -1) l hx;obtain⟨L,a⟩:∃L,L=pL b f x aQ:=⟨_,rfl⟩;have e:MM b f x aQ=if L.2≠0 then([],L.2)else if(mO L.1 b.2.2.2.2.2.1).2≠0 then([],(mO L.1 b.2.2.2.2.2.1).2)else
   if(nx b.2.2.2.2.2.2.2.2.2.2.2 f.2.2.2 (mO L.1 b.2.2.2.2.2.1).1).2≠0 then([],(nx b.2.2.2.2.2.2.2.2.2.2.2 f.2.2.2 (mO L.1 b.2.2.2.2.2.1).1).2)else S9 L.1 (nx b.2.2.2.2.2.2.2.2.2.2.2 f.2.2.2 (mO L.1 b.2.2.2.2.2.1).1).1:=by
  unfold MM;rw[←a]
 rw[e];clear e;unfold pL at a;rw[adi,aN,Ti hx l];simp only[aa,ag,bne_iff_ne]at a ⊢
 by_cases d1:(BG f x.length ((aQ.length:Int) -1)).2.2.2≠0
 ·rw[if_pos d1]at a ⊢;rw[a,if_pos d1]
 rw[if_neg d1]at a ⊢;rw[Mh c.g1 d];simp only[aa]
 by_cases d2:(mO x b.1).2≠0
 ·rw[if_pos d2]at a ⊢;rw[a,if_pos d2]
 rw[if_neg d2]at a ⊢;rw[Tj c.q nQ.bh y z B d];simp only[aa];obtain⟨T,j⟩:∃T,T=lg b.2.1 (mO x b.1).1 b.2.2.2.2.2.2.1 (BG f x.length ((aQ.length:Int) -1)).1 (BG f x.length ((aQ.length:Int) -1)).2.1 (BG f x.length ((aQ.length:Int) -1)).2.2.1:=⟨_,rfl⟩;have k:bh T.1:=by rw[j];exact Ls.bh
 have D:T.1.length≤1048576:=by rw[j];exact alk
 rw[←j]at a ⊢
 by_cases d3:T.2≠0
 ·rw[if_pos d3]at a ⊢;rw[a,if_pos d3]
 rw[if_neg d3]at a ⊢;rw[ann k E (by omega) r d];simp only[aa];obtain⟨O,u⟩:∃O,O=yu T.1 f.1 aQ b.2.2.2.2.2.2.2.2.2.2.1:=⟨_,rfl⟩;have g:bh O.1:=by rw[u];exact Mj
 rw[←u]at a ⊢
 by_cases d4:O.2≠0
 ·rw[if_pos d4]at a ⊢;rw[a,if_pos d4]
 rw[if_neg d4]at a ⊢;rw[xg c.o g d];simp only[aa];obtain⟨Y,w⟩:∃Y,Y=kx b.2.2.2.2.1 (x.length:Int) O.1:=⟨_,rfl⟩;have h:ir Y.1:=by rw[w];exact ke c.o g
 rw[←w]at a ⊢
 by_cases d5:Y.2≠0
 ·rw[if_pos d5]at a ⊢;rw[a,if_pos d5]
 rw[if_neg d5]at a ⊢;rw[C4 h d];simp only[aa]
 by_cases d6:(ju Y.1 b.2.2.2.2.2.2.2.2.2.1).2≠0
 ·rw[if_pos d6]at a ⊢;rw[a,if_pos d6]
 rw[if_neg d6]at a ⊢;rw[ag7 t (PQ h) d,←a];have i:ir L.1:=by rw[a];exact ad6
 simp only[aa]
 by_cases d7:L.2≠0
 ·rw[if_pos d7,if_pos d7]
 rw[if_neg d7,if_neg d7,Mh c.g2 d];simp only[aa]
 by_cases d8:(mO L.1 b.2.2.2.2.2.1).2≠0
 ·rw[if_pos d8,if_pos d8]
 rw[if_neg d8,if_neg d8,apD c.m1 c.m2 c.m3 l.fK nQ.bh d];simp only[aa]
 by_cases d9:(nx b.2.2.2.2.2.2.2.2.2.2.2 f.2.2.2 (mO L.1 b.2.2.2.2.2.1).1).2≠0
 ·rw[if_pos d9,if_pos d9]
 rw[if_neg d9,if_neg d9,ag7 i (XQ c.m3) d];rfl
end Go.Am.Pu
