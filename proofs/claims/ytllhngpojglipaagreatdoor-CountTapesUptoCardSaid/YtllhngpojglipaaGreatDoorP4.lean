import Derived.Test.YtllhngpojglipaaGreatDoorP3
set_option linter.unusedVariables false
set_option linter.unusedSimpArgs false
open Bool renaming false_eq_true→cp
open Int renaming toNat_natCast→ax
open Go.IntKind renaming bits→b9,signed→fW,wrap→ap
open List renaming getD_eq_getElem?_getD→aG,getElem?_eq_none→bx,getElem_mem→ak,length_append→ag,length_cons→aZ,length_drop→dI,length_nil→dz,length_take→aC,length→ae
open Nat renaming le_mul_of_pos_right→cB,le_refl→aA,le_trans→eA,mul_le_mul_right→cv
open Option renaming bind_some→aa
namespace Go.Am.Pu
open Go Go.Am
theorem ars{x d:Int}(hx1: -9223372036854775808≤x)(hx2:x≤9223372036854775807)(hd:1≤d): -9223372036854775808≤vl x d∧vl x d≤9223372036854775807:=by
 have h1:=jQ (x:=x) hd;have h2:=aky hx1 hx2 hd;unfold vl
 split
 ·exact h2 (by omega)
 ·omega
theorem aeV{x s:Int}(hx1: -9223372036854775808≤x)(hx2:x≤9223372036854775807): -9223372036854775808≤(cq x s).1∧(cq x s).1≤9223372036854775807:=by
 unfold cq
 split
 ·exact⟨by decide,by decide⟩
 ·exact ars hx1 hx2 (rV (by omega)).1
theorem QE{l:List Int}{s:Int}(hl:iI l):iI (jL l s).1:=by
 unfold jL
 split
 ·exact fun x hx=>(by cases hx)
 ·split
  ·exact fun x hx=>(by cases hx)
  ·intro x hx;obtain⟨y,hy,rfl⟩:=List.mem_map.1 hx;exact aeV (hl y hy).1 (hl y hy).2
def sk(l:List Int):Prop:=∀x∈l,-127≤x∧x≤127
theorem sk.bc{l:List Int}(h:sk l):bc l:=fun x hx=>by have:=h x hx;omega
theorem amI{l:List Int}{s:Int}:sk (zV l s).1:=by
 intro x hx;obtain⟨y,_,rfl⟩:=List.mem_map.1 hx;exact pV y
theorem amJ{l:List Int}{s:Int}:(zV l s).1.length≤1048576:=by
 have:=(QB (l:=l) (s:=s)).1;simpa[zV]using this
theorem aoU{w x:List Int}{c:Nat}(hw:bc w)(hx:bc x)(hl:w.length≤1048576):iI (Xa w c x):=by
 intro y hy;obtain⟨j,hj,rfl⟩:=i9 hy;have h1:=amz (hw.sub (j*c) c) hx;have h2:(eU w c j).length≤w.length:=by simp[eU];omega
 unfold eU at h2;show -9223372036854775808≤yp ((w.drop (j*c)).take c) x∧yp ((w.drop (j*c)).take c) x≤9223372036854775807;omega
theorem kH{w x:List Int}{fN:Int}(hw:bc w)(hx:bc x):iI (kW w fN x).1:=by
 unfold kW
 split
 ·exact fun x hx=>(by cases hx)
 ·rename_i h
  split
  ·exact fun x hx=>(by cases hx)
  ·exact aoU hw hx (W9 (w:=w) (fN:=fN) (by omega)).1
def dM(w h:List Int)(s:Int):List Int×Int:=if(kW w (h.length:Int) h).2≠0 then([],(kW w (h.length:Int) h).2)else zV (kW w (h.length:Int) h).1 s
theorem jW{w h:List Int}{s:Int}:sk (dM w h s).1:=by
 unfold dM
 split
 ·exact fun x hx=>(by cases hx)
 ·exact amI
theorem zW{w h:List Int}{s:Int}:(dM w h s).1.length≤1048576:=by
 unfold dM
 split
 ·simp
 ·exact amJ
theorem Yv{n:Nat}{w h:List Int}{s:Int}(hw:bc w)(hh:bc h)(hl:h.length≤1000000000)(hn:2000000000≤n):qQ n (w,h,s)=some (dM w h s):=by
 rw[Wo,Gn hw hh hl hn];unfold dM;simp only[aa,af,bne_iff_ne]
 split
 ·rfl
 ·rw[aeM (kH hw hh) hn];rfl
theorem Uf{n:Nat}{w h:List Int}{s:Int}(hw:bc w)(hh:bc h)(hn:2000000000≤n):pO n (w,h,s)=some (dM w h s):=by
 rw[TH,xR hw hh hn];unfold dM;simp only[aa,af,bne_iff_ne]
 split
 ·rfl
 ·rw[Ua (kH hw hh) hn];rfl
def B7(fZ gate up:List Int)(i:Nat):Int:=fF (cq (fZ.getD ((gate.getD i 0) % 256).toNat 0*up.getD i 0) 6).1
def Mf(fZ gate up:List Int):List Int×Int:=
 if fZ.length≠256 then([],120)else if gate.length>1048576∨up.length>1048576 then([],81)else if gate.length≠up.length then([],80)else(dX (B7 fZ gate up) gate.length,0)
theorem ail{fZ gate up:List Int}{K:Option (List Int×Int)}(hK:fZ.length=256→gate.length≤1048576→gate.length=up.length→K=some (dX (B7 fZ gate up) gate.length,0)):
  (av ((((ae fZ):Nat):Int)!=(256:Int))
   (some ([],(120:Int)))
   (av (decide ((((ae gate):Nat):Int)>(1048576:Int)))
    (some ([],(81:Int)))
    (av (decide ((((ae up):Nat):Int)>(1048576:Int)))
     (some ([],(81:Int)))
     (av ((((ae gate):Nat):Int)!=(((ae up):Nat):Int))
      (some ([],(80:Int))) K))))=some (Mf fZ gate up):=by
 unfold Mf;simp only[af,bF,bne_iff_ne,ne_eq]
 by_cases h1:fZ.length=256
 ·rw[gG,if_neg (show ¬ ¬ fZ.length=256 by omega)]
  by_cases h2:gate.length>1048576
  ·rw[lK,if_pos (.inl h2)]
  ·rw[gG]
   by_cases h3:up.length>1048576
   ·rw[lK,if_pos (.inr h3)]
   ·rw[gG,if_neg (show ¬ (gate.length>1048576∨up.length>1048576)by omega)]
    by_cases h4:gate.length=up.length
    ·rw[gG,if_neg (show ¬ ¬ gate.length=up.length by omega)];exact hK h1 (by omega) h4
    ·rw[lK,if_pos h4]
 ·rw[lK,if_pos h1]
theorem atA{n:Nat}{fZ gate up:List Int}(hb:bc fZ)(hg:bc gate)(hu:bc up)(hn:2000000000≤n):Hh n (fZ,gate,up)=some (Mf fZ gate up):=by
 rw[agu];refine ail fun h1 h2 h3=> ?_;have hm:Cl 1 (gate.length:Int)=some gate.length:=by
  unfold Cl room;rw[if_pos ⟨by omega,by omega,by omega⟩];simp
 rw[hm];simp only[aa];have hL:=aX (L:=fun k i o=>qc n k (fZ,up,(),gate,(gate.length:Int),i,o,())) (len:=gate.length) (r:=((),dX (B7 fZ gate up) gate.length,())) (fun i=>fill (B7 fZ gate up) 0 gate.length i) ?_ ?_ n (by omega)
 ·rw[wa]at hL;rw[hL];rfl
 ·intro k i hi;show qc n (k+1) _=_;rw[Jl];simp only[af,bF];have b1:=hg.at i;have b2:=hu.at i;have b3:=hb.at ((gate.getD i 0) % 256).toNat;have m1:=W8 b3 b2;rw[lK,bm hi 0];simp only[aa];have hw:ap .u8 (gate.getD i 0)=(((gate.getD i 0) % 256).toNat:Int):=by
   have:ap .u8 (gate.getD i 0)=(gate.getD i 0) % 256:=by simp[ap,b9,fW]
   rw[this];omega
  rw[hw,bm (l:=fZ) (by omega) 0];simp only[aa];rw[bm (show i<up.length by omega) 0];simp only[aa];rw[aN (x:=fZ.getD ((gate.getD i 0) % 256).toNat 0),aN (x:=up.getD i 0),aN (x:=fZ.getD ((gate.getD i 0) % 256).toNat 0*up.getD i 0),aay,nA (by omega) (by omega)];simp only[aa];rw[uH];simp only[aa];rw[HX _ _ hi];simp only[aa];rw[B6 _ _ hi,aN];simp only[aa];rw[show fF (cq (fZ.getD ((gate.getD i 0) % 256).toNat 0*up.getD i 0) 6).1=B7 fZ gate up i from rfl,B5 _ _ hi]
 ·intro k;show qc n (k+1) _=_;rw[Jl,af,if_neg (by simp),Gm]
theorem aoV{n:Nat}{fZ gate up:List Int}(hb:bc fZ)(hg:bc gate)(hu:bc up)(hn:2000000000≤n):zI n (fZ,gate,up)=some (Mf fZ gate up):=by
 rw[aaZ];refine ail fun h1 h2 h3=> ?_;have hL:=aX (L:=fun k i o=>mU n k (fZ,up,o,gate,(gate.length:Int),i,())) (len:=gate.length) (r:=(dX (B7 fZ gate up) gate.length,())) (fun i=>dX (B7 fZ gate up) i) ?_ ?_ n (by omega)
 ·rw[eS]at hL;rw[hL];rfl
 ·intro k i hi;show mU n (k+1) _=_;rw[DA];simp only[af,bF];have b1:=hg.at i;have b2:=hu.at i;have b3:=hb.at ((gate.getD i 0) % 256).toNat;have m1:=W8 b3 b2;rw[lK,bm hi 0];simp only[aa];rw[aN (x:=gate.getD i 0)];have e1:(if gate.getD i 0<0 then some (fZ,up,dX (B7 fZ gate up) i,(i:Int),ap .i64 (gate.getD i 0+256),gate,(gate.length:Int),(i:Int),())else some (fZ,up,dX (B7 fZ gate up) i,(i:Int),gate.getD i 0,gate,(gate.length:Int),(i:Int),()))=
    some (fZ,up,dX (B7 fZ gate up) i,(i:Int),(((gate.getD i 0) % 256).toNat:Int),gate,(gate.length:Int),(i:Int),()):=by
   split
   ·rw[aN,show gate.getD i 0+256=(((gate.getD i 0) % 256).toNat:Int)by omega]
   ·rw[show((((gate.getD i 0) % 256).toNat:Nat):Int)=gate.getD i 0 by omega]
  rw[e1];simp only[aa];rw[bm (l:=fZ) (by omega) 0];simp only[aa];rw[bm (show i<up.length by omega) 0];simp only[aa];rw[aN (x:=fZ.getD ((gate.getD i 0) % 256).toNat 0),aN (x:=up.getD i 0),aN (x:=fZ.getD ((gate.getD i 0) % 256).toNat 0*up.getD i 0),pU (by omega) (by omega) (by omega)];simp only[aa];rw[uI];simp only[aa];rw[show fF (cq (fZ.getD ((gate.getD i 0) % 256).toNat 0*up.getD i 0) 6).1=B7 fZ gate up i from rfl,fL _ (by unfold room;omega) (by unfold room;omega),aN];rfl
 ·intro k;show mU n (k+1) _=_;rw[DA,af,if_neg (by simp)]
theorem z9{fZ gate up:List Int}:sk (Mf fZ gate up).1:=by
 unfold Mf
 split
 ·exact fun x hx=>(by cases hx)
 ·split
  ·exact fun x hx=>(by cases hx)
  ·split
   ·exact fun x hx=>(by cases hx)
   ·intro x hx;obtain⟨i,_,rfl⟩:=i9 hx;exact pV _
theorem art{fZ gate up:List Int}:(Mf fZ gate up).1.length≤1048576:=by
 unfold Mf
 split
 ·simp
 ·split
  ·simp
  ·split
   ·simp
   ·rename_i h _;simp;omega
abbrev Mid:=List Int×List Int×List Int×Int×Int×Int
def n7(b:Mid)(fZ h:List Int):List Int×Int:=
 let g:=dM b.1 h b.2.2.2.1
 if g.2≠0 then([],g.2)else
 let u:=dM b.2.1 h b.2.2.2.2.1
 if u.2≠0 then([],u.2)else
 let m:=Mf fZ g.1 u.1
 if m.2≠0 then([],m.2)else
 let d:=kW b.2.2.1 (m.1.length:Int) m.1
 if d.2≠0 then([],d.2)else jL d.1 b.2.2.2.2.2
theorem aoW{n:Nat}{b:Mid}{fZ h:List Int}(h1:bc b.1)(h2:bc b.2.1)(h3:bc b.2.2.1)(hb:bc fZ)(hh:bc h)(hl:h.length≤1000000000)(hn:2000000000≤n):zn n (b,fZ,h)=some (n7 b fZ h):=by
 rw[aaz,Yv h1 hh hl hn];unfold n7;simp only[aa,af,bne_iff_ne]
 split
 ·rfl
 ·rw[Yv h2 hh hl hn];simp only[aa]
  split
  ·rfl
  ·rw[atA hb jW.bc jW.bc hn];simp only[aa]
   split
   ·rfl
   ·have:=art (fZ:=fZ) (gate:=(dM b.1 h b.2.2.2.1).1) (up:=(dM b.2.1 h b.2.2.2.2.1).1);rw[Gn h3 z9.bc (by omega) hn];simp only[aa]
    split
    ·rfl
    ·rw[MV (kH h3 z9.bc) hn];rfl
theorem aru{n:Nat}{b:Mid}{fZ h:List Int}(h1:bc b.1)(h2:bc b.2.1)(h3:bc b.2.2.1)(hb:bc fZ)(hh:bc h)(hn:2000000000≤n):C4 n (b,fZ,h)=some (n7 b fZ h):=by
 rw[aea,Uf h1 hh hn];unfold n7;simp only[aa,af,bne_iff_ne]
 split
 ·rfl
 ·rw[Uf h2 hh hn];simp only[aa]
  split
  ·rfl
  ·rw[aoV hb jW.bc jW.bc hn];simp only[aa]
   split
   ·rfl
   ·rw[xR h3 z9.bc hn];simp only[aa]
    split
    ·rfl
    ·rw[DO (kH h3 z9.bc) hn];rfl
theorem Yw{b:Mid}{fZ h:List Int}(h3:bc b.2.2.1):iI (n7 b fZ h).1:=by
 unfold n7;simp only
 split
 ·exact fun x hx=>(by cases hx)
 ·split
  ·exact fun x hx=>(by cases hx)
  ·split
   ·exact fun x hx=>(by cases hx)
   ·split
    ·exact fun x hx=>(by cases hx)
    ·exact QE (kH h3 z9.bc)
theorem aoX{n:Nat}(hn:10≤n){a b:List Int}(h:HZ a b=0):mE n [a,b]=some 0:=by
 obtain⟨h1,h2,h3⟩:=aie h;obtain⟨k,rfl⟩:∃k,n=k+4:=⟨n -4,by omega⟩;have e0:idx [a,b] (0:Int)=some a:=rfl;have e1:idx [a,b] (1:Int)=some b:=rfl;have d1:ap .i64 ((0:Int)+1)=1:=aN (by decide) (by decide);have d2:ap .i64 ((1:Int)+1)=2:=aN (by decide) (by decide);rw[Dh,jO];simp only[af,aZ,dz];rw[if_pos (by simp),e0];simp only[aa,bF];rw[gG,d1,jO];simp only[af];rw[if_pos (by simp),e1];simp only[aa,bF];rw[gG,d2,jO,af,if_neg (by simp)];simp only[aa,cY];rw[jP];simp only[af,aZ,dz];rw[if_pos (by simp),e0];simp only[aa];rw[if_neg (by simp),d1,jP];simp only[af];rw[if_pos (by simp),e1,e0];simp only[aa,bne_iff_ne,ne_eq];rw[gG,d2,jP,af,if_neg (by simp)];rfl
theorem av5{n:Nat}{a b:List Int}(ha:bc a)(hb:bc b)(hl:a.length=b.length)(hlen:a.length≤1048576)(hn:2000000000≤n):MS n (a,b)=some (yp a b,0):=by
 rw[ajF,aoX (by omega) (by unfold HZ;rw[gG,gG])];simp only[aa,af];rw[if_neg (by simp),aqj ha hb (by omega) (by omega) hn];rfl
def Fits(q:List Int)(rows:List (List Int)):Prop:=(1≤rows.length∧rows.length≤512)∧(1≤q.length∧q.length≤64)∧∀i,i<rows.length→(rows.getD i []).length=q.length
open Classical in
noncomputable def aim(q:List Int)(rows:List (List Int)):Bool:=decide (Fits q rows)
open Classical in
theorem xg{q:List Int}{rows:List (List Int)}(h:Fits q rows):aim q rows=true:=by unfold aim;exact decide_eq_true h
open Classical in
theorem po{q:List Int}{rows:List (List Int)}(h:¬ Fits q rows):aim q rows=false:=by unfold aim;exact decide_eq_false h
theorem H4{n:Nat}{q:List Int}{rows:List (List Int)}(hn:2000000000≤n):nF n (q,rows)=some (aim q rows):=by
 rw[aau];simp only[af,bF,beq_iff_eq]
 by_cases h1:(rows.length:Int)=0
 ·rw[if_pos h1,po (fun h=>by have:=h.1.1;omega)]
 rw[if_neg h1]
 by_cases h2:(rows.length:Int)>512
 ·rw[if_pos h2,po (fun h=>by have:=h.1.2;omega)]
 rw[if_neg h2]
 by_cases h3:(q.length:Int)=0
 ·rw[if_pos h3,po (fun h=>by have:=h.2.1.1;omega)]
 rw[if_neg h3]
 by_cases h4:(q.length:Int)>64
 ·rw[if_pos h4,po (fun h=>by have:=h.2.1.2;omega)]
 rw[if_neg h4];have step:∀k i:Nat,i<rows.length→jd n (k+1) (q,rows,(rows.length:Int),(i:Int),())=if(rows.getD i []).length≠q.length then some (Sum.inl (false,()))else jd n k (q,rows,(rows.length:Int),(i:Int)+1,()):=by
  intro k i hi;rw[Dk];simp only[af,bF,bne_iff_ne,ne_eq];rw[lK,bm hi []];simp only[aa]
  by_cases h:(rows.getD i []).length=q.length
  ·rw[gG,gG,aN]
  ·rw[lK,if_pos h]
 by_cases hex:∃i,i<rows.length∧(rows.getD i []).length≠q.length
 ·obtain⟨i0,hi0,hb0⟩:=hex;obtain⟨i,hi,hlt,hle⟩:=least (p:=fun i=>(rows.getD i []).length≠q.length) i0 hb0;have hL:=aX (L:=fun k i (_:Unit)=>jd n k (q,rows,(rows.length:Int),i,())) (len:=i) (r:=Sum.inl (false,())) (fun _=>())
   (fun k j hj=>by rw[step k j (by omega),if_neg (hlt j hj)]) (fun k=>by rw[step k i (by omega),if_pos hi]) n (by omega)
  rw[hL,po (fun h=>hb0 (h.2.2 i0 hi0))];rfl
 ·have hL:=aX (L:=fun k i (_:Unit)=>jd n k (q,rows,(rows.length:Int),i,())) (len:=rows.length) (r:=Sum.inr ()) (fun _=>())
   (fun k j hj=>by rw[step k j hj,if_neg (fun h=>hex ⟨j,hj,h⟩)]) (fun k=>by
    show jd n (k+1) _=_;rw[Dk,af,if_neg (by simp)]) n (by omega)
  rw[hL,xg ⟨by omega,by omega,fun i hi=>by
   by_cases h:(rows.getD i []).length=q.length
   ·exact h
   ·exact absurd ⟨i,hi,h⟩ hex⟩]
  rfl
theorem DS{n:Nat}{q:List Int}{rows:List (List Int)}(hn:2000000000≤n):l7 n (q,rows)=some (!aim q rows):=by
 rw[WO];simp only[af,bF]
 by_cases h1:(rows.length:Int)<1
 ·rw[if_pos h1,po (fun h=>by have:=h.1.1;omega)];rfl
 rw[if_neg h1]
 by_cases h2:(rows.length:Int)>512
 ·rw[if_pos h2,po (fun h=>by have:=h.1.2;omega)];rfl
 rw[if_neg h2]
 by_cases h3:(q.length:Int)<1
 ·rw[if_pos h3,po (fun h=>by have:=h.2.1.1;omega)];rfl
 rw[if_neg h3]
 by_cases h4:(q.length:Int)>64
 ·rw[if_pos h4,po (fun h=>by have:=h.2.1.2;omega)];rfl
 rw[if_neg h4];have step:∀k i:Nat,i<rows.length→iy n (k+1) (q,rows,(i:Int),())=if(rows.getD i []).length≠q.length then some (Sum.inl (true,()))else iy n k (q,rows,(i:Int)+1,()):=by
  intro k i hi;rw[BK];simp only[af,bF,bne_iff_ne,ne_eq];rw[lK,bm hi []];simp only[aa]
  by_cases h:(rows.getD i []).length=q.length
  ·rw[gG,gG,aN]
  ·rw[lK,if_pos h]
 by_cases hex:∃i,i<rows.length∧(rows.getD i []).length≠q.length
 ·obtain⟨i0,hi0,hb0⟩:=hex;obtain⟨i,hi,hlt,hle⟩:=least (p:=fun i=>(rows.getD i []).length≠q.length) i0 hb0;have hL:=aX (L:=fun k i (_:Unit)=>iy n k (q,rows,i,())) (len:=i) (r:=Sum.inl (true,())) (fun _=>())
   (fun k j hj=>by rw[step k j (by omega),if_neg (hlt j hj)]) (fun k=>by rw[step k i (by omega),if_pos hi]) n (by omega)
  rw[hL,po (fun h=>hb0 (h.2.2 i0 hi0))];rfl
 ·have hL:=aX (L:=fun k i (_:Unit)=>iy n k (q,rows,i,())) (len:=rows.length) (r:=Sum.inr ()) (fun _=>())
   (fun k j hj=>by rw[step k j hj,if_neg (fun h=>hex ⟨j,hj,h⟩)]) (fun k=>by
    show iy n (k+1) _=_;rw[BK,af,if_neg (by simp)]) n (by omega)
  rw[hL,xg ⟨by omega,by omega,fun i hi=>by
   by_cases h:(rows.getD i []).length=q.length
   ·exact h
   ·exact absurd ⟨i,hi,h⟩ hex⟩]
  rfl
def xS(rows:List (List Int)):Prop:=∀r∈rows,bc r
theorem xS.at{rows:List (List Int)}(h:xS rows)(i:Nat):bc (rows.getD i []):=by
 by_cases hi:i<rows.length
 ·rw[aT hi];exact h _ (ak hi)
 ·rw[aG,bx (by omega)];exact fun x hx=>(by cases hx)
def qm(q:List Int)(keys:List (List Int))(s:Int):List Int:=dX (fun i=>(cq (yp q (keys.getD i [])) s).1) keys.length
theorem Xb{q:List Int}{keys:List (List Int)}(hq:bc q)(hk:xS keys)(hf:Fits q keys)(i:Nat): -9223372036854775808≤yp q (keys.getD i [])∧yp q (keys.getD i [])≤9223372036854775807:=by
 have h1:=amz hq (hk.at i);have h2:=hf.2.1.2;omega
theorem Yx{q:List Int}{keys:List (List Int)}{s:Int}(hq:bc q)(hk:xS keys)(hf:Fits q keys):iI (qm q keys s):=by
 intro x hx;obtain⟨i,_,rfl⟩:=i9 hx;have:=Xb hq hk hf i;exact aeV this.1 this.2
theorem ahe{n:Nat}{q:List Int}{keys:List (List Int)}{s:Int}(hq:bc q)(hk:xS keys)(hf:Fits q keys)(hs:0≤s)(hs2:s≤31)(hn:2000000000≤n):ru n (q,keys,s)=some (qm q keys s,0):=by
 rw[Qk,H4 hn,xg hf];have g1:=hf.1;have g2:=hf.2.1;simp only[aa,af,bF];rw[if_neg (by simp),gG,gG];have hL:=aX (L:=fun k i o=>jp n k (q,s,o,keys,(keys.length:Int),i,())) (len:=keys.length) (r:=(qm q keys s,())) (fun i=>dX (fun i=>(cq (yp q (keys.getD i [])) s).1) i) ?_ ?_ n (by omega)
 ·rw[eS]at hL;rw[hL];rfl
 ·intro k i hi;show jp n (k+1) _=_;rw[xJ];simp only[af,bF];have b:=Xb hq hk hf i;rw[lK,bm hi []];simp only[aa];rw[av5 hq (hk.at i) (hf.2.2 i hi).symm (by omega) hn];simp only[aa];rw[nA b.1 b.2];simp only[aa];rw[fL (fun i=>(cq (yp q (keys.getD i [])) s).1) (by unfold room;omega) (by unfold room;omega),aN];rfl
 ·intro k;show jp n (k+1) _=_;rw[xJ,af,if_neg (by simp)];rfl
theorem akG{n:Nat}{q:List Int}{keys:List (List Int)}{s:Int}(hq:bc q)(hk:xS keys)(hf:Fits q keys)(hs:0≤s)(hs2:s≤31)(hn:2000000000≤n):ua n (q,keys,s)=some (qm q keys s,0):=by
 rw[TG,DS hn,xg hf];have g1:=hf.1;have g2:=hf.2.1;simp only[aa,af,bF];rw[if_neg (by simp),gG,gG];have hL:=aX (L:=fun k i o=>ki n k (q,keys,s,o,i,())) (len:=keys.length) (r:=(qm q keys s,())) (fun i=>dX (fun i=>(cq (yp q (keys.getD i [])) s).1) i) ?_ ?_ n (by omega)
 ·rw[eS]at hL;rw[hL];rfl
 ·intro k i hi;show ki n (k+1) _=_;rw[yV];simp only[af,bF];have b:=Xb hq hk hf i;rw[lK,bm hi []];simp only[aa];rw[aid hq (hk.at i) (hf.2.2 i hi).symm (by omega) hn];simp only[aa];rw[pU (by omega) b.1 b.2];simp only[aa];rw[fL (fun i=>(cq (yp q (keys.getD i [])) s).1) (by unfold room;omega) (by unfold room;omega),aN];rfl
 ·intro k;show ki n (k+1) _=_;rw[yV,af,if_neg (by simp)];rfl
noncomputable def aeW(q:List Int)(keys values:List (List Int))(s:Int):List Int:=QD (fI (qm q keys s)) values q.length
theorem Fits.rows{q:List Int}{rows:List (List Int)}(h:Fits q rows)(h8:xS rows):Rows rows q.length:=⟨h.1,h.2.2,h8.at⟩
theorem amK{n:Nat}{q:List Int}{keys values:List (List Int)}{s:Int}(hq:bc q)(hk:xS keys)(hv:xS values)(hf:Fits q keys)(hg:Fits q values)(hl:values.length=keys.length)(hs:0≤s)(hs2:s≤31)(hn:2000000000≤n):wA n (q,keys,values,s)=some (aeW q keys values s,0):=by
 have g1:=hf.1;have g2:=hf.2.1;have hsl:(qm q keys s).length=keys.length:=by simp[qm]
 rw[Wm,ahe hq hk hf hs hs2 hn];simp only[aa,af,bne_iff_ne,ne_eq];rw[if_neg (by simp),gG,H4 hn,xg hg];simp only[aa];rw[if_neg (by simp),akE (Yx hq hk hf) (by omega) (by omega) hn];simp only[aa];rw[if_neg (by simp),aoT (EU (by omega) (by omega)) (hg.rows hv) (by simp[fI];omega) (by omega) hn];rfl
theorem aoY{n:Nat}{q:List Int}{keys values:List (List Int)}{s:Int}(hq:bc q)(hk:xS keys)(hv:xS values)(hf:Fits q keys)(hg:Fits q values)(hl:values.length=keys.length)(hs:0≤s)(hs2:s≤31)(hn:2000000000≤n):zG n (q,keys,values,s)=some (aeW q keys values s,0):=by
 have g1:=hf.1;have g2:=hf.2.1;have hsl:(qm q keys s).length=keys.length:=by simp[qm]
 rw[aaX,akG hq hk hf hs hs2 hn];simp only[aa,af,bne_iff_ne,ne_eq];rw[if_neg (by simp),gG,DS hn,xg hg];simp only[aa];rw[if_neg (by simp),ahd (Yx hq hk hf) (by omega) (by omega) hn];simp only[aa];rw[amH (EU (by omega) (by omega)) (hg.rows hv) (by simp[fI];omega) (by omega) hn];rfl
def B8(rows:List (List Int))(a size:Nat):List (List Int):=dX (fun i=>((rows.getD i []).drop a).take size) rows.length
theorem akH{rows:List (List Int)}(h:xS rows)(a size:Nat):xS (B8 rows a size):=by
 intro r hr;obtain⟨i,_,rfl⟩:=i9 hr;exact(h.at i).sub a size
theorem uM{l:List Int}{a b:Nat}(h:a+b≤l.length:=by omega):slc l (a:Int) ((a:Int)+(b:Int))=some ((l.drop a).take b):=by
 unfold slc;rw[if_pos ⟨by omega,by omega,by omega⟩];congr 1;rw[show((a:Int)+(b:Int)).toNat=a+b by omega,ax,List.drop_take];congr 1;omega
theorem aeX{n:Nat}{rows:List (List Int)}{a size m:Nat}(hlen:rows.length≤512)(hr:∀i,i<rows.length→(rows.getD i []).length=m)(ha:a+size≤m)(hm:m≤1000000)(hn:2000000000≤n):oh n (rows,(a:Int),(size:Int))=some (B8 rows a size):=by
 rw[Qj];have hL:=aX (L:=fun k i o=>jo n k ((a:Int),(size:Int),o,rows,(rows.length:Int),i,())) (len:=rows.length) (r:=(B8 rows a size,())) (fun i=>dX (fun i=>((rows.getD i []).drop a).take size) i) ?_ ?_ n (by omega)
 ·rw[eS]at hL;rw[hL];rfl
 ·intro k i hi;show jo n (k+1) _=_;rw[xI];simp only[af,bF];have h1:=hr i hi;rw[lK,bm hi []];simp only[aa];rw[aN (x:=(a:Int)+(size:Int)),uM];simp only[aa];rw[fL (fun i=>((rows.getD i []).drop a).take size) (by unfold room;omega) (by unfold room;omega),aN];rfl
 ·intro k;show jo n (k+1) _=_;rw[xI,af,if_neg (by simp)];rfl
def Nw(g:Nat→List Int):Nat→List Int
 |0=>[]
 |h+1=>Nw g h++g h
theorem aeY{g:Nat→List Int}{p:Int→Prop}(hg:∀i,∀x∈g i,p x):∀h,∀x∈Nw g h,p x
 |0,x,hx=>by cases hx
 |h+1,x,hx=>by
  rcases List.mem_append.1 hx with hx |hx
  ·exact aeY hg h x hx
  ·exact hg h x hx
abbrev kR:=List (List Int×List Int)
def dt(aO:kR):List (List Int):=dX (fun i=>(aO.getD i ([],[])).1) aO.length
def valuesOf(aO:kR):List (List Int):=dX (fun i=>(aO.getD i ([],[])).2) aO.length
noncomputable def qB(q:List Int)(keys values:List (List Int))(sz:Nat)(s:Int)(h:Nat):List Int:=aeW ((q.drop (h*sz)).take sz) (B8 keys (h*sz) sz) (B8 values (h*sz) sz) s
open Classical in
noncomputable def y8(q:List Int)(jk:Int)(aO:kR)(s:Int):List Int×Int:=
 if jk<1∨(q.length:Int) % jk≠0 then([],190)else if ¬ (Fits q (dt aO)∧Fits q (valuesOf aO))then([],191)else if s<0∨s>31 then([],20)else
  (Nw (qB q (dt aO) (valuesOf aO) (q.length/jk.toNat) s) jk.toNat,0)
theorem DT{q:List Int}{sz H h:Nat}(hq:q.length=H*sz)(hh:h<H):((q.drop (h*sz)).take sz).length=sz∧h*sz+sz≤q.length:=by
 have:(h+1)*sz≤H*sz:=cv sz hh;rw[Nat.succ_mul]at this;refine⟨by simp;omega,by omega⟩
theorem Ug{q:List Int}{rows:List (List Int)}{sz H h:Nat}(hf:Fits q rows)(hq:q.length=H*sz)(hh:h<H)(hsz:1≤sz):Fits ((q.drop (h*sz)).take sz) (B8 rows (h*sz) sz):=by
 have h1:=DT hq hh;have g2:=hf.2.1;refine⟨by simpa[B8]using hf.1,by omega,fun i hi=> ?_⟩;have hi:i<rows.length:=by simpa[B8]using hi
 unfold B8;rw[pW _ hi];have:=hf.2.2 i hi;rw[h1.1,aC,dI];omega
theorem DU{q:List Int}{keys values:List (List Int)}{sz:Nat}{s:Int}{h:Nat}:(qB q keys values sz s h).length=((q.drop (h*sz)).take sz).length:=by simp[qB,aeW,QD]
theorem aoZ{q:List Int}{keys values:List (List Int)}{sz:Nat}{s:Int}{h:Nat}:bc (qB q keys values sz s h):=by
 intro x hx;obtain⟨i,_,rfl⟩:=i9 hx;exact ayY _
theorem MX{g:Nat→List Int}{m H:Nat}(hg:∀i,i<H→(g i).length=m):∀h,h≤H→(Nw g h).length=h*m
 |0,_=>by simp[Nw]
 |h+1,hh=>by simp only[Nw,ag,MX hg h (by omega),hg h (by omega),Nat.succ_mul]
theorem amL{g:Nat→List Int}{m H h:Nat}(hg:∀i,i<H→(g i).length=m)(hh:h<H)(hb:(h+1)*m≤1000000):app 1 (Nw g h) (g h)=some (Nw g (h+1)):=by
 unfold app room;rw[Nat.succ_mul]at hb;rw[MX hg h (by omega),hg h hh,if_pos ⟨by omega,by omega⟩];rfl
theorem amM{n:Nat}{q:List Int}{jk s:Int}{aO:kR}(hq:bc q)(hp:∀p∈aO,bc p.1∧bc p.2)(hql:q.length≤1000000000)(xX:aO.length≤1000000000)(hn:2000000000≤n):wC n (q,jk,aO,s)=some (y8 q jk aO s):=by
 have hk8:xS (dt aO):=by
  intro r hr;obtain⟨i,hi,rfl⟩:=i9 hr;rw[aT hi];exact(hp _ (ak hi)).1
 have hv8:xS (valuesOf aO):=by
  intro r hr;obtain⟨i,hi,rfl⟩:=i9 hr;rw[aT hi];exact(hp _ (ak hi)).2
 rw[Wn];unfold y8;simp only[af,bF,bne_iff_ne,ne_eq]
 by_cases a1:jk<1
 ·rw[if_pos a1,if_pos (.inl a1)]
 rw[if_neg a1,DP];simp only[aa]
 by_cases a2:¬ (q.length:Int) % jk=0
 ·rw[if_pos a2,if_pos (.inr a2)]
 have a2:(q.length:Int) % jk=0:=by omega
 rw[if_neg (by simpa using a2),if_neg (show ¬ (jk<1∨¬ (q.length:Int) % jk=0)by omega)];have hA:=aX (L:=fun k i (o:List (List Int)×List (List Int))=>la n k (q,jk,s,o.1,o.2,aO,(aO.length:Int),i,())) (len:=aO.length) (r:=(q,jk,s,dt aO,valuesOf aO,())) (fun i=>(dX (fun i=>(aO.getD i ([],[])).1) i,dX (fun i=>(aO.getD i ([],[])).2) i)) ?_ ?_ n (by omega)
 ·simp only[eS]at hA;rw[hA];simp only[aa];rw[H4 hn];simp only[aa]
  by_cases a3:Fits q (dt aO)
  ·rw[xg a3,if_neg (by simp),H4 hn];simp only[aa]
   by_cases a4:Fits q (valuesOf aO)
   ·rw[xg a4,if_neg (by simp),if_neg (show ¬ ¬ (Fits q (dt aO)∧Fits q (valuesOf aO))from fun h=>h ⟨a3,a4⟩)]
    by_cases a5:s<0
    ·rw[if_pos a5,if_pos (.inl a5)]
    rw[if_neg a5]
    by_cases a6:s>31
    ·rw[if_pos a6,if_pos (.inr a6)]
    rw[if_neg a6,gG];obtain⟨H,rfl⟩:∃H:Nat,jk=(H:Int):=⟨jk.toNat,by omega⟩;rw[ax];have g2:=a3.2.1;have hmod:q.length % H=0:=by omega
    have hqH:q.length=H*(q.length/H):=by have:=Nat.div_add_mod q.length H;omega
    obtain⟨sz,hsz⟩:∃sz,sz=q.length/H:=⟨_,rfl⟩;rw[←hsz]at hqH ⊢;have Ro:1≤sz:=by
     by_cases h:sz=0
     ·rw[h]at hqH;omega
     ·omega
    rw[n6 (by omega) (by omega) (by omega),show(q.length:Int)/(H:Int)=(sz:Int)by rw[hsz];simp];simp only[aa];have hlen:∀i,i<H→(qB q (dt aO) (valuesOf aO) sz s i).length=sz:=fun i hi=>by rw[DU];exact(DT hqH hi).1
    have hHq:H≤q.length:=by rw[hqH];exact cB _ Ro
    have hL:=aX (L:=fun k (h:Int) o=>kf n k (q,s,dt aO,valuesOf aO,(),o,(h*(sz:Int),()),((sz:Int),()),())) (len:=H) (r:=Sum.inr (Nw (qB q (dt aO) (valuesOf aO) sz s) H,())) (fun h=>Nw (qB q (dt aO) (valuesOf aO) sz s) h) ?_ ?_ n (by omega)
    ·rw[show Nw (qB q (dt aO) (valuesOf aO) sz s) 0=[]from rfl]at hL;simp only[Int.zero_mul]at hL;rw[hL];rfl
    ·intro k h hh;show kf n (k+1) _=_;rw[yI];simp only[af,bF];have b1:=DT hqH hh;have b2:(h+1)*sz≤H*sz:=cv sz hh;rw[Nat.succ_mul]at b2;have e1:(h:Int)*(sz:Int)=((h*sz:Nat):Int):=by simp
     rw[e1,lK,aN (x:=((h*sz:Nat):Int)+(sz:Int)),uM];simp only[aa];rw[aeX (m:=q.length) a3.1.2 a3.2.2 (by omega) (by omega) hn];simp only[aa];rw[aeX (m:=q.length) a4.1.2 a4.2.2 (by omega) (by omega) hn];simp only[aa];rw[amK (hq.sub _ _) (akH hk8 _ _) (akH hv8 _ _) (Ug a3 hqH hh Ro) (Ug a4 hqH hh Ro) (by simp[B8,dt,valuesOf]) (by omega) (by omega) hn];simp only[aa,bne_self_eq_false,cp,if_false];rw[show aeW ((q.drop (h*sz)).take sz) (B8 (dt aO) (h*sz) sz) (B8 (valuesOf aO) (h*sz) sz) s=qB q (dt aO) (valuesOf aO) sz s h from rfl];rw[amL hlen hh (by rw[Nat.succ_mul];omega)];simp only[aa];rw[show((h*sz:Nat):Int)+(sz:Int)=((h:Int)+1)*(sz:Int)by rw[Int.add_mul];simp]
    ·intro k;show kf n (k+1) _=_;have e1:(H:Int)*(sz:Int)=((H*sz:Nat):Int):=by simp
     rw[yI,af,e1,if_neg (by simp;omega)]
   ·rw[po a4,if_pos (by simp),if_pos (show ¬ (Fits q (dt aO)∧Fits q (valuesOf aO))from fun h=>a4 h.2)]
  ·rw[po a3,if_pos (by simp),if_pos (show ¬ (Fits q (dt aO)∧Fits q (valuesOf aO))from fun h=>a3 h.1)]
 ·intro k i hi;show la n (k+1) _=_;rw[Bk];simp only[af,bF];rw[lK,bm hi ([],[])];simp only[aa];rw[fL (fun i=>(aO.getD i ([],[])).1) (by unfold room;omega) (by unfold room;omega)];simp only[aa];rw[fL (fun i=>(aO.getD i ([],[])).2) (by unfold room;omega) (by unfold room;omega),aN];rfl
 ·intro k;show la n (k+1) _=_;rw[Bk,af,if_neg (by simp)];rfl
theorem arv{n:Nat}{q:List Int}{H s sz h:Nat}{aO:kR}{out:List Int}{ss:Int}(f1:Fits q (dt aO))(f2:Fits q (valuesOf aO))(hqH:q.length=H*sz)(hh:h<H)(hn:2000000000≤n):
  jH n n (q,(H:Int),aO,ss,dt aO,valuesOf aO,(sz:Int),out,(h:Int),[],[],0,())=some (q,(H:Int),aO,ss,dt aO,valuesOf aO,(sz:Int),out,(h:Int),B8 (dt aO) (h*sz) sz,B8 (valuesOf aO) (h*sz) sz,()):=by
 have xX:aO.length≤512:=by have:=f1.1.2;simpa[dt]using this
 have hkl:(dt aO).length=aO.length:=by simp[dt]
 have hvl:(valuesOf aO).length=aO.length:=by simp[valuesOf]
 have g2:=f1.2.1;have b1:=DT hqH hh;have e1:(h:Int)*(sz:Int)=((h*sz:Nat):Int):=by simp
 have e2:((h:Int)+1)*(sz:Int)=((h*sz:Nat):Int)+(sz:Int):=by rw[Int.add_mul,e1];simp
 have hL:=aX (L:=fun k i (o:List (List Int)×List (List Int))=>jH n k (q,(H:Int),aO,ss,dt aO,valuesOf aO,(sz:Int),out,(h:Int),o.1,o.2,i,())) (len:=aO.length)
  (r:=(q,(H:Int),aO,ss,dt aO,valuesOf aO,(sz:Int),out,(h:Int),B8 (dt aO) (h*sz) sz,B8 (valuesOf aO) (h*sz) sz,())) (fun i=>(dX (fun i=>(((dt aO).getD i []).drop (h*sz)).take sz) i,dX (fun i=>(((valuesOf aO).getD i []).drop (h*sz)).take sz) i)) ?_ ?_ n (by omega)
 ·simp only[eS]at hL;exact hL
 ·intro k i hi;show jH n (k+1) _=_;rw[BN];simp only[af,bF];have c1:=f1.2.2 i (by omega);have c2:=f2.2.2 i (by omega);have hH:H≤q.length∨sz=0:=by
   by_cases h0:sz=0
   ·exact .inr h0
   ·exact .inl (by rw[hqH];exact cB _ (by omega))
  rw[lK,bm (show i<(dt aO).length by omega) []];simp only[aa];rw[aN (x:=(h:Int)*(sz:Int))];rw[show ap .i64 (ap .i64 ((h:Int)+1)*(sz:Int))=((h*sz:Nat):Int)+(sz:Int)by
   rcases hH with hH |hH
   ·rw[aN (x:=(h:Int)+1),e2,aN]
   ·subst hH;simp only[Nat.mul_zero,Int.natCast_zero,Int.mul_zero,Int.add_zero];exact aN]
  rw[e1,uM];simp only[aa];rw[fL (fun i=>(((dt aO).getD i []).drop (h*sz)).take sz) (by unfold room;omega) (by unfold room;omega)];simp only[aa];rw[bm (show i<(valuesOf aO).length by omega) []];simp only[aa];rw[uM];simp only[aa];rw[fL (fun i=>(((valuesOf aO).getD i []).drop (h*sz)).take sz) (by unfold room;omega) (by unfold room;omega),aN];rfl
 ·intro k;show jH n (k+1) _=_;rw[BN,af,if_neg (by simp)];show some (_,_,_,_,_,_,_,_,_,dX _ _,dX _ _,())=_;unfold B8;rw[hkl,hvl]
theorem ao0{n:Nat}{q:List Int}{jk s:Int}{aO:kR}(hq:bc q)(hp:∀p∈aO,bc p.1∧bc p.2)(hql:q.length≤1000000000)(xX:aO.length≤1000000000)(hn:2000000000≤n):zH n (q,jk,aO,s)=some (y8 q jk aO s):=by
 have hk8:xS (dt aO):=by
  intro r hr;obtain⟨i,hi,rfl⟩:=i9 hr;rw[aT hi];exact(hp _ (ak hi)).1
 have hv8:xS (valuesOf aO):=by
  intro r hr;obtain⟨i,hi,rfl⟩:=i9 hr;rw[aT hi];exact(hp _ (ak hi)).2
 rw[aaY];unfold y8;simp only[af,bF,bne_iff_ne,ne_eq]
 by_cases a1:jk<1
 ·rw[if_pos a1,if_pos (.inl a1)]
 rw[if_neg a1,DP];simp only[aa]
 by_cases a2:¬ (q.length:Int) % jk=0
 ·rw[if_pos a2,if_pos (.inr a2)]
 have a2:(q.length:Int) % jk=0:=by omega
 rw[if_neg (by simpa using a2),if_neg (show ¬ (jk<1∨¬ (q.length:Int) % jk=0)by omega)];have hA:=aX (L:=fun k i (o:List (List Int)×List (List Int))=>mT n k (q,jk,aO,s,o.1,o.2,i,())) (len:=aO.length) (r:=(q,jk,aO,s,dt aO,valuesOf aO,())) (fun i=>(dX (fun i=>(aO.getD i ([],[])).1) i,dX (fun i=>(aO.getD i ([],[])).2) i)) ?_ ?_ n (by omega)
 ·simp only[eS]at hA;rw[hA];simp only[aa];rw[DS hn];simp only[aa]
  by_cases a3:Fits q (dt aO)
  ·rw[xg a3,if_neg (by simp),DS hn];simp only[aa]
   by_cases a4:Fits q (valuesOf aO)
   ·rw[xg a4,if_neg (by simp),if_neg (show ¬ ¬ (Fits q (dt aO)∧Fits q (valuesOf aO))from fun h=>h ⟨a3,a4⟩)]
    by_cases a5:s<0
    ·rw[if_pos a5,if_pos (.inl a5)]
    rw[if_neg a5]
    by_cases a6:s>31
    ·rw[if_pos a6,if_pos (.inr a6)]
    rw[if_neg a6,gG];obtain⟨H,rfl⟩:∃H:Nat,jk=(H:Int):=⟨jk.toNat,by omega⟩;rw[ax];have g2:=a3.2.1;have hmod:q.length % H=0:=by omega
    have hqH:q.length=H*(q.length/H):=by have:=Nat.div_add_mod q.length H;omega
    obtain⟨sz,hsz⟩:∃sz,sz=q.length/H:=⟨_,rfl⟩;rw[←hsz]at hqH ⊢;have Ro:1≤sz:=by
     by_cases h:sz=0
     ·rw[h]at hqH;omega
     ·omega
    rw[n6 (by omega) (by omega) (by omega),show(q.length:Int)/(H:Int)=(sz:Int)by rw[hsz];simp];simp only[aa];have hlen:∀i,i<H→(qB q (dt aO) (valuesOf aO) sz s i).length=sz:=fun i hi=>by rw[DU];exact(DT hqH hi).1
    have hHq:H≤q.length:=by rw[hqH];exact cB _ Ro
    have hL:=aX (L:=fun k (h:Int) o=>lh n k (q,(H:Int),aO,s,dt aO,valuesOf aO,(sz:Int),o,h,())) (len:=H) (r:=(Nw (qB q (dt aO) (valuesOf aO) sz s) H,())) (fun h=>Nw (qB q (dt aO) (valuesOf aO) sz s) h) ?_ ?_ n (by omega)
    ·rw[show Nw (qB q (dt aO) (valuesOf aO) sz s) 0=[]from rfl]at hL;rw[hL];rfl
    ·intro k h hh;show lh n (k+1) _=_;rw[BM];simp only[af,bF];have b1:=DT hqH hh;have b2:(h+1)*sz≤H*sz:=cv sz hh;rw[Nat.succ_mul]at b2;have e1:(h:Int)*(sz:Int)=((h*sz:Nat):Int):=by simp
     have e2:((h:Int)+1)*(sz:Int)=((h*sz:Nat):Int)+(sz:Int):=by rw[Int.add_mul,e1];simp
     rw[lK,arv (s:=0) a3 a4 hqH hh hn];simp only[aa];rw[aN (x:=(h:Int)*(sz:Int)),aN (x:=(h:Int)+1),e1,e2,aN (x:=((h*sz:Nat):Int)+(sz:Int)),uM];simp only[aa];rw[aoY (hq.sub _ _) (akH hk8 _ _) (akH hv8 _ _) (Ug a3 hqH hh Ro) (Ug a4 hqH hh Ro) (by simp[B8,dt,valuesOf]) (by omega) (by omega) hn];simp only[aa];rw[show aeW ((q.drop (h*sz)).take sz) (B8 (dt aO) (h*sz) sz) (B8 (valuesOf aO) (h*sz) sz) s=qB q (dt aO) (valuesOf aO) sz s h from rfl];rw[amL hlen hh (by rw[Nat.succ_mul];omega)];rfl
    ·intro k;show lh n (k+1) _=_;rw[BM,af,if_neg (by simp)]
   ·rw[po a4,if_pos (by simp),if_pos (show ¬ (Fits q (dt aO)∧Fits q (valuesOf aO))from fun h=>a4 h.2)]
  ·rw[po a3,if_pos (by simp),if_pos (show ¬ (Fits q (dt aO)∧Fits q (valuesOf aO))from fun h=>a3 h.1)]
 ·intro k i hi;show mT n (k+1) _=_;rw[Dz];simp only[af,bF];rw[lK,bm hi ([],[])];simp only[aa];rw[fL (fun i=>(aO.getD i ([],[])).1) (by unfold room;omega) (by unfold room;omega)];simp only[aa];rw[fL (fun i=>(aO.getD i ([],[])).2) (by unfold room;omega) (by unfold room;omega),aN];rfl
 ·intro k;show mT n (k+1) _=_;rw[Dz,af,if_neg (by simp)];rfl
theorem MY{q:List Int}{jk s:Int}{aO:kR}:bc (y8 q jk aO s).1:=by
 unfold y8
 split
 ·exact fun x hx=>(by cases hx)
 ·split
  ·exact fun x hx=>(by cases hx)
  ·split
   ·exact fun x hx=>(by cases hx)
   ·exact aeY (p:=fun x=> -128≤x∧x≤127) (fun i x hx=>aoZ x hx) _
theorem arw{q:List Int}{jk s:Int}{aO:kR}:(y8 q jk aO s).1.length≤q.length:=by
 unfold y8
 split
 ·simp
 ·rename_i a1
  split
  ·simp
  ·split
   ·simp
   ·obtain⟨H,rfl⟩:∃H:Nat,jk=(H:Int):=⟨jk.toNat,by omega⟩;rw[ax];have hqH:q.length=H*(q.length/H):=by have:=Nat.div_add_mod q.length H;omega
    show(Nw _ H).length≤_;rw[MX (m:=q.length/H) (H:=H) (fun i hi=>by rw[DU];exact(DT hqH hi).1) H (aA _)];omega
abbrev GI:=List Int×List Int×List Int×List Int×List Int×List Int×Int×Int×Int×Int×Int×List Int×List Int×List Int×Int×Int×Int
abbrev QQ:=Int×List Int×List Int×List Int
structure OkB (b:GI):Prop where
 g1:bc b.1
 q:bc b.2.1
 k:bc b.2.2.1
 v:bc b.2.2.2.1
 o:bc b.2.2.2.2.1
 g2:bc b.2.2.2.2.2.1
 m1:bc b.2.2.2.2.2.2.2.2.2.2.2.1
 m2:bc b.2.2.2.2.2.2.2.2.2.2.2.2.1
 m3:bc b.2.2.2.2.2.2.2.2.2.2.2.2.2.1
structure OkF (f:QQ):Prop where
 cos:bc f.2.1
 sin:bc f.2.2.1
 fZ:bc f.2.2.2
 cl:f.2.1.length≤1000000000
 sl:f.2.2.1.length≤1000000000
def Cr(f:QQ)(d:Nat)(p:Int):Int×List Int×List Int×Int:=
 if f.1<1∨(d:Int) % f.1≠0 then(0,[],[],200)else
 let sz:=d/f.1.toNat
 if sz<2∨sz % 2≠0 then(0,[],[],200)else
 if p<0∨p≥((f.2.1.length/(sz/2):Nat):Int)∨p≥((f.2.2.1.length/(sz/2):Nat):Int)then(0,[],[],201)else
  ((sz:Int),(f.2.1.drop (p.toNat*(sz/2))).take (sz/2),(f.2.2.1.drop (p.toNat*(sz/2))).take (sz/2),0)
theorem Aa{l half p:Nat}(h:p<l/half):p*half+half≤l:=by
 have h2:(p+1)*half≤(l/half)*half:=cv half h;have h3:=Nat.div_mul_le_self l half;rw[Nat.succ_mul]at h2;omega
theorem Uh{n:Nat}{f:QQ}{x:List Int}{p:Int}(hx:x.length≤1000000000)(hf:OkF f):py n (f,x,p)=some (Cr f x.length p):=by
 rw[Tk];unfold Cr;simp only[af,bF,bne_iff_ne,ne_eq,beq_iff_eq]
 by_cases a1:f.1<1
 ·rw[if_pos a1,if_pos (.inl a1)]
 rw[if_neg a1,DP];simp only[aa]
 by_cases a2:¬ (x.length:Int) % f.1=0
 ·rw[if_pos a2,if_pos (.inr a2)]
 rw[if_neg a2,if_neg (show ¬ (f.1<1∨¬ (x.length:Int) % f.1=0)by omega),n6 (by omega) (by omega) (by omega)];simp only[aa];obtain⟨H,hH⟩:∃H:Nat,f.1=(H:Int):=⟨f.1.toNat,by omega⟩;rw[hH,ax];obtain⟨sz,hsz⟩:∃sz,sz=x.length/H:=⟨_,rfl⟩;have aDR:sz≤x.length:=by rw[hsz];exact Nat.div_le_self _ _
 rw[←hsz,show(x.length:Int)/(H:Int)=(sz:Int)by rw[hsz];simp]
 by_cases a3:(sz:Int)=0
 ·rw[if_pos a3,if_pos (.inl (by omega))]
 rw[if_neg a3,DP];simp only[aa]
 by_cases a4:¬ (sz:Int) % 2=0
 ·rw[if_pos a4,if_pos (.inr (by omega))]
 rw[if_neg a4,if_neg (show ¬ (sz<2∨¬ sz % 2=0)by omega),n6 (by omega) (by omega) (by omega)];simp only[aa];obtain⟨half,hh⟩:∃half,half=sz/2:=⟨_,rfl⟩;rw[←hh,show(sz:Int)/2=(half:Int)by omega];have hcl:=hf.cl;have hsl:=hf.sl
 by_cases a5:p<0
 ·rw[if_pos a5,if_pos (.inl a5)]
 rw[if_neg a5,n6 (by omega) (by omega) (by omega)];simp only[aa];rw[show(f.2.1.length:Int)/(half:Int)=((f.2.1.length/half:Nat):Int)by simp]
 by_cases a6:p≥((f.2.1.length/half:Nat):Int)
 ·rw[if_pos a6,if_pos (.inr (.inl a6))]
 rw[if_neg a6,n6 (by omega) (by omega) (by omega)];simp only[aa];rw[show(f.2.2.1.length:Int)/(half:Int)=((f.2.2.1.length/half:Nat):Int)by simp]
 by_cases a7:p≥((f.2.2.1.length/half:Nat):Int)
 ·rw[if_pos a7,if_pos (.inr (.inr a7))]
 rw[if_neg a7,gG];obtain⟨P,rfl⟩:∃P:Nat,p=(P:Int):=⟨p.toNat,by omega⟩;rw[ax];have r1:=Aa (l:=f.2.1.length) (half:=half) (p:=P) (by omega);have r2:=Aa (l:=f.2.2.1.length) (half:=half) (p:=P) (by omega);have hPl:P≤f.2.1.length:=by have:=Nat.div_le_self f.2.1.length half;omega
 have e1:(P:Int)*(half:Int)=((P*half:Nat):Int):=by simp
 have e2:((P:Int)+1)*(half:Int)=((P*half:Nat):Int)+(half:Int):=by rw[Int.add_mul,e1];simp
 rw[aN (x:=(P:Int)+1),e1,e2,aN,aN,uM];simp only[aa];rw[uM];rfl
theorem Ui{n:Nat}{f:QQ}{d:Nat}{p:Int}(hx:d≤1000000000)(hf:OkF f):pJ n (f,(d:Int),p)=some (Cr f d p):=by
 rw[TB];unfold Cr;simp only[af,bF,bne_iff_ne,ne_eq]
 by_cases a1:f.1<1
 ·rw[if_pos a1,if_pos (.inl a1)]
 rw[if_neg a1,DP];simp only[aa]
 by_cases a2:¬ (d:Int) % f.1=0
 ·rw[if_pos a2,if_pos (.inr a2)]
 rw[if_neg a2,if_neg (show ¬ (f.1<1∨¬ (d:Int) % f.1=0)by omega),n6 (by omega) (by omega) (by omega)];simp only[aa];obtain⟨H,hH⟩:∃H:Nat,f.1=(H:Int):=⟨f.1.toNat,by omega⟩;rw[hH,ax];obtain⟨sz,hsz⟩:∃sz,sz=d/H:=⟨_,rfl⟩;have aDR:sz≤d:=by rw[hsz];exact Nat.div_le_self _ _
 rw[←hsz,show(d:Int)/(H:Int)=(sz:Int)by rw[hsz];simp]
 by_cases a3:(sz:Int)<2
 ·rw[if_pos a3,if_pos (.inl (by omega))]
 rw[if_neg a3,DP];simp only[aa]
 by_cases a4:¬ (sz:Int) % 2=0
 ·rw[if_pos a4,if_pos (.inr (by omega))]
 rw[if_neg a4,if_neg (show ¬ (sz<2∨¬ sz % 2=0)by omega),n6 (by omega) (by omega) (by omega)];simp only[aa];obtain⟨half,hh⟩:∃half,half=sz/2:=⟨_,rfl⟩;rw[←hh,show(sz:Int)/2=(half:Int)by omega];have hcl:=hf.cl;have hsl:=hf.sl
 by_cases a5:p<0
 ·rw[if_pos a5,if_pos (.inl a5)]
 rw[if_neg a5,n6 (by omega) (by omega) (by omega)];simp only[aa];rw[show(f.2.1.length:Int)/(half:Int)=((f.2.1.length/half:Nat):Int)by simp]
 by_cases a6:p≥((f.2.1.length/half:Nat):Int)
 ·rw[if_pos a6,if_pos (.inr (.inl a6))]
 rw[if_neg a6,n6 (by omega) (by omega) (by omega)];simp only[aa];rw[show(f.2.2.1.length:Int)/(half:Int)=((f.2.2.1.length/half:Nat):Int)by simp]
 by_cases a7:p≥((f.2.2.1.length/half:Nat):Int)
 ·rw[if_pos a7,if_pos (.inr (.inr a7))]
 rw[if_neg a7,gG];obtain⟨P,rfl⟩:∃P:Nat,p=(P:Int):=⟨p.toNat,by omega⟩;rw[ax];have r1:=Aa (l:=f.2.1.length) (half:=half) (p:=P) (by omega);have r2:=Aa (l:=f.2.2.1.length) (half:=half) (p:=P) (by omega);have e1:(P:Int)*(half:Int)=((P*half:Nat):Int):=by simp
 rw[e1,aN (x:=((P*half:Nat):Int)),aN (x:=((P*half:Nat):Int)+(half:Int)),uM];simp only[aa];rw[uM];simp only[aa];rw[aN,show 2*(half:Int)=(sz:Int)by omega]
theorem abS{f:QQ}{d:Nat}{p:Int}(hf:OkF f)(hd:d≤1000000000):bc (Cr f d p).2.1∧bc (Cr f d p).2.2.1∧(Cr f d p).1≤9223372036854775807:=by
 have xT:bc []:=fun x hx=>(by cases hx);unfold Cr
 split
 ·exact⟨xT,xT,by simp⟩
 ·simp only
  split
  ·exact⟨xT,xT,by simp⟩
  ·split
   ·exact⟨xT,xT,by simp⟩
   ·refine⟨hf.cos.sub _ _,hf.sin.sub _ _,?_⟩;have:=Nat.div_le_self d f.1.toNat;show((d/f.1.toNat:Nat):Int)≤_;omega
theorem EV{n:Nat}{w h:List Int}{s:Int}(hw:bc w)(hh:bc h)(hl:h.length≤1000000000)(hn:2000000000≤n):k7 n (w,h,s)=some (dM w h s):=by
 rw[Qi,Gn hw hh hl hn];unfold dM;simp only[aa,af,bne_iff_ne]
 split
 ·rfl
 ·rw[aeM (kH hw hh) hn];rfl
theorem Pq{n:Nat}{w h:List Int}{s:Int}(hw:bc w)(hh:bc h)(hn:2000000000≤n):om n (w,h,s)=some (dM w h s):=by
 rw[Qq,xR hw hh hn];unfold dM;simp only[aa,af,bne_iff_ne]
 split
 ·rfl
 ·rw[Ua (kH hw hh) hn];rfl
theorem oB{l gw:List Int}:sk (ns l gw).1:=by
 unfold ns
 split
 ·exact fun x hx=>(by cases hx)
 ·split
  ·exact fun x hx=>(by cases hx)
  ·intro x hx;obtain⟨i,_,rfl⟩:=i9 hx;exact pV _
theorem aeZ{l gw:List Int}:(ns l gw).1.length≤64:=by
 unfold ns
 split
 ·simp
 ·split
  ·simp
  ·rename_i h;have:=aeP (l:=l) (by omega);simp;omega
theorem ain{x cos sin:List Int}{size:Int}:sk (Gq x size cos sin).1:=by
 unfold Gq
 split
 ·exact fun x hx=>(by cases hx)
 ·split
  ·exact fun x hx=>(by cases hx)
  ·intro x hx;obtain⟨i,_,rfl⟩:=i9 hx;unfold uK
   split
   ·exact pV _
   ·exact pV _
theorem aio{x cos sin:List Int}{size:Int}:(Gq x size cos sin).1.length≤x.length:=by
 unfold Gq
 split
 ·simp
 ·split
  ·simp
  ·simp
def lL(w h:List Int)(s size:Int)(cos sin:List Int):List Int×Int:=if(dM w h s).2≠0 then([],(dM w h s).2)else Gq (dM w h s).1 size cos sin
theorem Mg{w h:List Int}{s size:Int}{cos sin:List Int}:sk (lL w h s size cos sin).1:=by
 unfold lL
 split
 ·exact fun x hx=>(by cases hx)
 ·exact ain
theorem amN{w h:List Int}{s size:Int}{cos sin:List Int}:(lL w h s size cos sin).1.length≤1048576:=by
 unfold lL
 split
 ·simp
 ·exact eA aio zW
theorem Uj{n:Nat}{w h:List Int}{s size:Int}{cos sin:List Int}(hw:bc w)(hh:bc h)(hc:bc cos)(hs:bc sin)(hz:size≤9223372036854775807)(hn:2000000000≤n):pN n (w,h,s,size,cos,sin)=some (lL w h s size cos sin):=by
 rw[TF,Pq hw hh hn];unfold lL;simp only[aa,af,bne_iff_ne]
 split
 ·rfl
 ·have:=zW (w:=w) (h:=h) (s:=s);rw[aoP jW.bc hc hs hz (by omega) hn];rfl
noncomputable def pX(b:GI)(f:QQ)(x:List Int)(p:Int):(List Int×List Int)×Int:=
 let a:=Cr f x.length p
 if a.2.2.2≠0 then(([],[]),a.2.2.2)else
 let h:=ns x b.1
 if h.2≠0 then(([],[]),h.2)else
 let k:=lL b.2.2.1 h.1 b.2.2.2.2.2.2.2.1 a.1 a.2.1 a.2.2.1
 if k.2≠0 then(([],[]),k.2)else
 let v:=dM b.2.2.2.1 h.1 b.2.2.2.2.2.2.2.2.1
 if v.2≠0 then(([],[]),v.2)else((k.1,v.1),0)
theorem ao2{n:Nat}{b:GI}{f:QQ}{x:List Int}{p:Int}(hb:OkB b)(hf:OkF f)(hx:x.length≤1000000000)(hn:2000000000≤n):zk n (b,f,x,p)=some (pX b f x p):=by
 rw[aat,Uh hx hf];obtain⟨c1,c2,c3⟩:=abS (p:=p) hf hx;unfold pX lL;simp only[aa,af,bne_iff_ne]
 split
 ·rfl
 ·rw[Uc hb.g1 hn];have l1:=aeZ (l:=x) (gw:=b.1);simp only[aa]
  split
  ·rfl
  ·rw[EV hb.k oB.bc (by omega) hn];have l2:=zW (w:=b.2.2.1) (h:=(ns x b.1).1) (s:=b.2.2.2.2.2.2.2.1);simp only[aa]
   by_cases h1:(dM b.2.2.1 (ns x b.1).1 b.2.2.2.2.2.2.2.1).2≠0
   ·rw[if_pos h1,if_pos h1,if_pos h1]
   ·rw[if_neg h1,if_neg h1,aik jW.bc c1 c2 c3 (by omega) hn];simp only[aa]
    split
    ·rfl
    ·rw[EV hb.v oB.bc (by omega) hn];simp only[aa]
     split
     ·rfl
     ·rfl
theorem ao3{n:Nat}{b:GI}{f:QQ}{x:List Int}{p:Int}(hb:OkB b)(hf:OkF f)(hx:x.length≤1000000000)(hn:2000000000≤n):zE n (b,f,x,p)=some (pX b f x p):=by
 rw[aaU,Ui hx hf];obtain⟨c1,c2,c3⟩:=abS (p:=p) hf hx;unfold pX;simp only[aa,af,bne_iff_ne]
 split
 ·rfl
 ·rw[MW hb.g1 hn];simp only[aa]
  split
  ·rfl
  ·rw[Uj hb.k oB.bc c1 c2 c3 hn];simp only[aa]
   split
   ·rfl
   ·rw[Pq hb.v oB.bc hn];simp only[aa]
    split
    ·rfl
    ·rfl
theorem ae0{a b:List Int}:iI (Ub a b).1:=by
 unfold Ub
 split
 ·exact fun x hx=>(by cases hx)
 ·split
  ·exact fun x hx=>(by cases hx)
  ·intro x hx;obtain⟨i,_,rfl⟩:=i9 hx;unfold oA akz
   split
   ·rename_i h;exact h
   ·exact⟨by decide,by decide⟩
noncomputable def qn(b:GI)(f:QQ)(x:List Int)(aO:kR):List Int×Int:=
 let a:=Cr f x.length ((aO.length:Int) -1)
 if a.2.2.2≠0 then([],a.2.2.2)else
 let h:=ns x b.1
 if h.2≠0 then([],h.2)else
 let q:=lL b.2.1 h.1 b.2.2.2.2.2.2.1 a.1 a.2.1 a.2.2.1
 if q.2≠0 then([],q.2)else
 let o:=y8 q.1 f.1 aO b.2.2.2.2.2.2.2.2.2.2.1
 if o.2≠0 then([],o.2)else
 let y:=kW b.2.2.2.2.1 (x.length:Int) o.1
 if y.2≠0 then([],y.2)else
 let z:=jL y.1 b.2.2.2.2.2.2.2.2.2.1
 if z.2≠0 then([],z.2)else Ub x z.1
noncomputable def Nx(b:GI)(f:QQ)(x:List Int)(aO:kR):List Int×Int:=
 let y:=qn b f x aO
 if y.2≠0 then([],y.2)else
 let g:=ns y.1 b.2.2.2.2.2.1
 if g.2≠0 then([],g.2)else
 let d:=n7 b.2.2.2.2.2.2.2.2.2.2.2 f.2.2.2 g.1
 if d.2≠0 then([],d.2)else Ub y.1 d.1
theorem amO{b:GI}{f:QQ}{x:List Int}{aO:kR}:iI (qn b f x aO).1:=by
 have xT:iI []:=fun x hx=>(by cases hx);unfold qn;simp only
 split
 ·exact xT
 ·split
  ·exact xT
  ·split
   ·exact xT
   ·split
    ·exact xT
    ·split
     ·exact xT
     ·split
      ·exact xT
      ·exact ae0
theorem atB{b:GI}{f:QQ}{x:List Int}{aO:kR}:iI (Nx b f x aO).1:=by
 have xT:iI []:=fun x hx=>(by cases hx);unfold Nx;simp only
 split
 ·exact xT
 ·split
  ·exact xT
  ·split
   ·exact xT
   ·exact ae0
theorem akI{n:Nat}{b:GI}{f:QQ}{x:List Int}{aO:kR}(hb:OkB b)(hf:OkF f)(hx8:iI x)(hx:x.length≤1000000000)(hp:∀p∈aO,bc p.1∧bc p.2)(xX:aO.length≤1000000000)(hn:2000000000≤n):tJ n (b,f,x,aO)=some (qn b f x aO):=by
 rw[Tn,aN,Uh hx hf];obtain⟨c1,c2,c3⟩:=abS (p:=(aO.length:Int) -1) hf hx;unfold qn lL;simp only[aa,af,bne_iff_ne]
 split
 ·rfl
 ·rw[Uc hb.g1 hn];have l1:=aeZ (l:=x) (gw:=b.1);simp only[aa]
  split
  ·rfl
  ·rw[EV hb.q oB.bc (by omega) hn];have l2:=zW (w:=b.2.1) (h:=(ns x b.1).1) (s:=b.2.2.2.2.2.2.1);simp only[aa]
   by_cases h1:(dM b.2.1 (ns x b.1).1 b.2.2.2.2.2.2.1).2≠0
   ·rw[if_pos h1,if_pos h1,if_pos h1]
   ·rw[if_neg h1,if_neg h1,aik jW.bc c1 c2 c3 (by omega) hn];simp only[aa]
    split
    ·rfl
    ·have l3:=aio (x:=(dM b.2.1 (ns x b.1).1 b.2.2.2.2.2.2.1).1) (cos:=(Cr f x.length ((aO.length:Int) -1)).2.1) (sin:=(Cr f x.length ((aO.length:Int) -1)).2.2.1) (size:=(Cr f x.length ((aO.length:Int) -1)).1);rw[amM ain.bc hp (by omega) xX hn];simp only[aa]
     split
     ·rfl
     ·have l4:=arw (q:=(Gq (dM b.2.1 (ns x b.1).1 b.2.2.2.2.2.2.1).1 (Cr f x.length ((aO.length:Int) -1)).1 (Cr f x.length ((aO.length:Int) -1)).2.1 (Cr f x.length ((aO.length:Int) -1)).2.2.1).1) (jk:=f.1) (aO:=aO) (s:=b.2.2.2.2.2.2.2.2.2.2.1);rw[Gn hb.o MY (by omega) hn];simp only[aa]
      split
      ·rfl
      ·rw[MV (kH hb.o MY) hn];simp only[aa]
       split
       ·rfl
       ·rw[aql hx8 (QE (kH hb.o MY)) hn];rfl
theorem ary{n:Nat}{b:GI}{f:QQ}{x:List Int}{aO:kR}(hb:OkB b)(hf:OkF f)(hx8:iI x)(hx:x.length≤1000000000)(hp:∀p∈aO,bc p.1∧bc p.2)(xX:aO.length≤1000000000)(hn:2000000000≤n):CQ n (b,f,x,aO)=some (Nx b f x aO):=by
 rw[adS,akI hb hf hx8 hx hp xX hn];unfold Nx;simp only[aa,af,bne_iff_ne]
 split
 ·rfl
 ·rw[Uc hb.g2 hn];have l1:=aeZ (l:=(qn b f x aO).1) (gw:=b.2.2.2.2.2.1);simp only[aa]
  split
  ·rfl
  ·rw[aoW hb.m1 hb.m2 hb.m3 hf.fZ oB.bc (by omega) hn];simp only[aa]
   split
   ·rfl
   ·rw[aql amO (Yw hb.m3) hn];rfl
theorem arz{n:Nat}{b:GI}{f:QQ}{x:List Int}{aO:kR}(hb:OkB b)(hf:OkF f)(hx8:iI x)(hx:x.length≤1000000000)(hp:∀p∈aO,bc p.1∧bc p.2)(xX:aO.length≤1000000000)(hn:2000000000≤n):C5 n (b,f,x,aO)=some (Nx b f x aO):=by
 obtain⟨c1,c2,c3⟩:=abS (p:=(aO.length:Int) -1) hf hx;obtain⟨L,hL⟩:∃L,L=qn b f x aO:=⟨_,rfl⟩;have hrun:Nx b f x aO=if L.2≠0 then([],L.2)else if(ns L.1 b.2.2.2.2.2.1).2≠0 then([],(ns L.1 b.2.2.2.2.2.1).2)else
   if(n7 b.2.2.2.2.2.2.2.2.2.2.2 f.2.2.2 (ns L.1 b.2.2.2.2.2.1).1).2≠0 then([],(n7 b.2.2.2.2.2.2.2.2.2.2.2 f.2.2.2 (ns L.1 b.2.2.2.2.2.1).1).2)else Ub L.1 (n7 b.2.2.2.2.2.2.2.2.2.2.2 f.2.2.2 (ns L.1 b.2.2.2.2.2.1).1).1:=by
  unfold Nx;rw[←hL]
 rw[hrun];clear hrun;unfold qn at hL;rw[aeb,aN,Ui hx hf];simp only[aa,af,bne_iff_ne]at hL ⊢
 by_cases d1:(Cr f x.length ((aO.length:Int) -1)).2.2.2≠0
 ·rw[if_pos d1]at hL ⊢;rw[hL,if_pos d1]
 rw[if_neg d1]at hL ⊢;rw[MW hb.g1 hn];simp only[aa]
 by_cases d2:(ns x b.1).2≠0
 ·rw[if_pos d2]at hL ⊢;rw[hL,if_pos d2]
 rw[if_neg d2]at hL ⊢;rw[Uj hb.q oB.bc c1 c2 c3 hn];simp only[aa];obtain⟨T,hT⟩:∃T,T=lL b.2.1 (ns x b.1).1 b.2.2.2.2.2.2.1 (Cr f x.length ((aO.length:Int) -1)).1 (Cr f x.length ((aO.length:Int) -1)).2.1 (Cr f x.length ((aO.length:Int) -1)).2.2.1:=⟨_,rfl⟩;have hT8:bc T.1:=by rw[hT];exact Mg.bc
 have hTl:T.1.length≤1048576:=by rw[hT];exact amN
 rw[←hT]at hL ⊢
 by_cases d3:T.2≠0
 ·rw[if_pos d3]at hL ⊢;rw[hL,if_pos d3]
 rw[if_neg d3]at hL ⊢;rw[ao0 hT8 hp (by omega) xX hn];simp only[aa];obtain⟨O,hO⟩:∃O,O=y8 T.1 f.1 aO b.2.2.2.2.2.2.2.2.2.2.1:=⟨_,rfl⟩;have hO8:bc O.1:=by rw[hO];exact MY
 rw[←hO]at hL ⊢
 by_cases d4:O.2≠0
 ·rw[if_pos d4]at hL ⊢;rw[hL,if_pos d4]
 rw[if_neg d4]at hL ⊢;rw[xR hb.o hO8 hn];simp only[aa];obtain⟨Y,hY⟩:∃Y,Y=kW b.2.2.2.2.1 (x.length:Int) O.1:=⟨_,rfl⟩;have hY8:iI Y.1:=by rw[hY];exact kH hb.o hO8
 rw[←hY]at hL ⊢
 by_cases d5:Y.2≠0
 ·rw[if_pos d5]at hL ⊢;rw[hL,if_pos d5]
 rw[if_neg d5]at hL ⊢;rw[DO hY8 hn];simp only[aa]
 by_cases d6:(jL Y.1 b.2.2.2.2.2.2.2.2.2.1).2≠0
 ·rw[if_pos d6]at hL ⊢;rw[hL,if_pos d6]
 rw[if_neg d6]at hL ⊢;rw[aif hx8 (QE hY8) hn,←hL];have hL8:iI L.1:=by rw[hL];exact ae0
 simp only[aa]
 by_cases d7:L.2≠0
 ·rw[if_pos d7,if_pos d7]
 rw[if_neg d7,if_neg d7,MW hb.g2 hn];simp only[aa]
 by_cases d8:(ns L.1 b.2.2.2.2.2.1).2≠0
 ·rw[if_pos d8,if_pos d8]
 rw[if_neg d8,if_neg d8,aru hb.m1 hb.m2 hb.m3 hf.fZ oB.bc hn];simp only[aa]
 by_cases d9:(n7 b.2.2.2.2.2.2.2.2.2.2.2 f.2.2.2 (ns L.1 b.2.2.2.2.2.1).1).2≠0
 ·rw[if_pos d9,if_pos d9]
 rw[if_neg d9,if_neg d9,aif hL8 (Yw hb.m3) hn];rfl
end Go.Am.Pu
