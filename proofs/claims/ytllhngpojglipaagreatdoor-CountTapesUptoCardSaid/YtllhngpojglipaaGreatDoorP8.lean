import Derived.Test.YtllhngpojglipaaGreatDoorP7
set_option linter.unusedVariables false
set_option linter.unusedSimpArgs false
open Array renaming toList→eB
open Bool renaming false_eq_true→cp,or_eq_true→aB
open Int renaming ediv_nonneg→fv,mul_ediv_add_emod→dU,mul_le_mul_of_nonneg_left→dF,mul_le_mul_of_nonneg_right→ci,mul_le_mul→dR,mul_nonneg→dq,pow_pos→fp,pow_succ→dP,tdiv_eq_ediv_of_nonneg→aK
open Go.IntKind renaming wrap→ap
open List renaming append_assoc→bn,append_nil→cK,cons_append→eJ,drop_eq_getElem_cons→bz,drop_of_length_le→bB,drop_zero→dC,getElem?_eq_getElem→ah,getElem_mem→ak,length_append→ag,length_map→di,length_replicate→aY,length_set→aP,length_take→aC,map_append→eI,map_cons→cj,mem_cons_of_mem→aF,mem_cons_self→aH,mem_of_mem_take→dy,replicate→ao,take_add_one→dO,take_of_length_le→bA,take_zero→fm
open Nat renaming le_refl→aA
open Option renaming bind_some→aa
namespace Go.Am.Pu
open Go Go.Am
theorem apl{k:IntKind}{a b:Int}{s:Nat}(hk:k= .u64∨k= .u32)(ha:0≤a)(hb:0≤b)(J0:b<2^s)(h:a*2^s+b<2^k.bits):sU .or k (a*2^s) b=a*2^s+b:=by
 obtain⟨a,rfl⟩:∃a':Nat,a=a':=⟨a.toNat,by omega⟩;obtain⟨b,rfl⟩:∃b':Nat,b=b':=⟨b.toNat,by omega⟩;have J0:b<2^s:=by exact_mod_cast J0
 have e1:((a:Int)*2^s)=((a*2^s:Nat):Int):=by simp
 rw[e1]at h ⊢;have h:a*2^s+b<2^k.bits:=by exact_mod_cast h
 unfold sU;have e2:(BitVec.ofInt k.bits ((a*2^s:Nat):Int) ||| BitVec.ofInt k.bits (b:Int)).toNat=a*2^s+b:=by
  rw[BitVec.toNat_or,BitVec.ofInt_natCast,BitVec.ofInt_natCast,BitVec.toNat_ofNat,BitVec.toNat_ofNat,Nat.mod_eq_of_lt (by omega),Nat.mod_eq_of_lt (by omega)];rw[←Nat.shiftLeft_eq,Nat.shiftLeft_add_eq_or_of_lt J0]
 show k.wrap (((BitVec.ofInt k.bits ((a*2^s:Nat):Int) ||| BitVec.ofInt k.bits (b:Int)).toNat:Nat):Int)=_;rw[e2];rcases hk with rfl |rfl
 ·have h:a*2^s+b<18446744073709551616:=h;rw[Ny (Int.natCast_nonneg _) (Int.ofNat_lt.2 h)];exact Int.natCast_add _ _
 ·have h:a*2^s+b<4294967296:=h;rw[arF (Int.natCast_nonneg _) (Int.ofNat_lt.2 h)];exact Int.natCast_add _ _
theorem bV{a b:Int}(h:0≤a:=by omega):a.tdiv b=a/b:=aK h
theorem pY{a b:Int}(h:0≤a:=by omega):a.tmod b=a % b:=Int.tmod_eq_emod_of_nonneg h
structure Quo (B d:Int) (x out:List Int) (r:Int) (i:Nat):Prop where
 len:out.length=x.length
 dig:jl B out
 rr:0≤r∧r<d
 val:vz B (x.drop i)=d*vz B (out.drop i)+r
theorem Quo.step{B d r:Int}{x out:List Int}{i:Nat}(hB:0<B)(hd:0<d)(hx:jl B x)(h:Quo B d x out r (i+1))(hi:i<x.length):
  0≤r*B+x[i]∧r*B+x[i]<d*B∧(r*B+x[i])/d<B∧Quo B d x (out.set i ((r*B+x[i])/d)) ((r*B+x[i]) % d) i:=by
 have hp:=hx.at hi;have h1:0≤r*B:=dq h.rr.1 (by omega);have h2:(r+1)*B≤d*B:=ci (by have:=h.rr.2;omega) (by omega);have h3:r*B+x[i]<d*B:=by grind
 have h4:(r*B+x[i])/d<B:=Int.ediv_lt_of_lt_mul hd (by grind);have hs:=H7 hd (s:=r*B+x[i]) (by omega);have ho:i<out.length:=by rw[h.len];exact hi
 refine⟨by omega,h3,h4,by rw[aP];exact h.len,h.dig.set hs.2.2.1 h4,⟨hs.1,hs.2.1⟩,?_⟩;rw[awf hi,ahj ho];show _=d*((r*B+x[i])/d+B*vz B (out.drop (i+1)))+(r*B+x[i]) % d;rw[h.val];have:=hs.2.2.2
 grind
theorem Quo.fin{B d r:Int}{x out:List Int}(hd:0<d)(h:Quo B d x out r 0):vz B out=vz B x/d∧r=vz B x % d:=by
 have h1:=h.val;rw[dC,dC]at h1;have:=(Int.ediv_emod_unique (a:=vz B x) (b:=d) (r:=r) (q:=vz B out) hd).2 ⟨by omega,h.rr.1,h.rr.2⟩;exact⟨this.1.symm,this.2.symm⟩
theorem YB{n:Nat}{d:Int}{x o1:List Int}(hd:1≤d∧d<4294967296)(hx:jl 4294967296 x)(hb:x.length≤1000000000):
  ∀(m k:Nat) (r:Int) (out:List Int),m≤x.length→m<k→Quo 4294967296 d x out r m→
  ∃r' out',tX n k (d,(),(),(),r,(m:Int) -1,(x,()),(o1,()),out,())=some ((),(),r',(o1,()),out',())∧Quo 4294967296 d x out' r' 0
 |0,k,r,out,h1,h2,h=>by
  obtain⟨k,rfl⟩:=iY k;rw[Dr,sS];exact⟨r,out,rfl,h⟩
 |m+1,k,r,out,h1,h2,h=>by
  obtain⟨k,rfl⟩:=iY k;have hi:m<x.length:=by omega
  have hp:=hx.at hi;have hr:=h.rr;obtain⟨s1,s2,s3,s4⟩:=h.step (by omega) (by omega) hx hi;have ho:m<out.length:=by rw[h.len];exact hi
  rw[Dr,jK];rw[show((m+1:Nat):Int) -1=(m:Int)by omega,bj hi];have e1:qG .u64 r 32=some (r*4294967296):=by
   unfold qG;rw[gG];show some (ap .u64 (r*2^32))=_;rw[Ny];rfl
  have e2:=apl (k:=.u64) (a:=r) (b:=x[m]) (s:=32) (.inl rfl) hr.1 hp.1 (by simpa using hp.2) (by show r*2^32+x[m]<2^64;omega);rw[show(2:Int)^32=4294967296 from rfl]at e2;rw[e1];simp only[aa];rw[Ny (x:=x[m]),e2,Ny (x:=d)];have e3:qt .u64 (r*4294967296+x[m]) d=some ((r*4294967296+x[m])/d):=by
   unfold qt;rw[gG,bV s1,Ny (fv s1 (by omega)) (by omega)]
  rw[e3,lu,pY s1,ej ho];simp only[aa];rw[ah ho];simp only[aa];rw[aN (x:=(m:Int) -1),arF (fv s1 (by omega)) (by omega)];exact YB hd hx hb m k _ _ (by omega) (by omega) s4
theorem ay2{n:Nat}{d:Int}{x:List Int}(hd:1≤d∧d<4294967296)(hx:Can 4294967296 x)(hb:x.length≤1000000)(hn:2000000000≤n):
  ∃q,zy n ((x,()),d)=some ((q,()),vz 4294967296 x % d)∧Can 4294967296 q∧vz 4294967296 q=vz 4294967296 x/d∧q.length≤x.length:=by
 rw[aaM,gY (m:=x.length) rfl (by omega) (by omega)];simp only[aa];obtain⟨r,out,he,hq⟩:=YB (n:=n) (d:=d) (x:=x) (o1:=[]) hd hx.1 (by omega) x.length n 0 (ao x.length 0) (aA _) (by omega)
  ⟨by simp,jl.rep (by omega) _,⟨by omega,by omega⟩,by rw[bB (aA _),bB (by simp)];simp[vz]⟩
 rw[aN (x:=(x.length:Int) -1),he];simp only[aa];have hl:=hq.len;have hf:=hq.fin (by omega);rw[abW (by omega) (by omega)];simp only[aa];have hr:=hq.rr;rw[arF,hf.2];refine⟨_,rfl,xV hq.dig,by rw[DX];exact hf.1,?_⟩;have:=Cb out;omega
def akT:Nat→Int→List Int
 |0,_=>[]
 |k+1,v=>v % 10::akT k (v/10)
theorem ane:∀(k:Nat) (v:Int),(akT k v).length=k
 |0,_=>rfl
 |k+1,v=>by show(akT k (v/10)).length+1=k+1;rw[ane k]
theorem anf:∀(k:Nat) (v:Int),jl 10 (akT k v)
 |0,_=>jl.nil
 |k+1,v=>jl.cons (by omega) (by omega) (anf k _)
theorem aqx:∀(k:Nat) (v:Int),0≤v→v<10^k→vz 10 (akT k v)=v
 |0,v,h1,h2=>by simp at h2;show(0:Int)=v;omega
 |k+1,v,h1,h2=>by
  show v % 10+10*vz 10 (akT k (v/10))=v;rw[dP]at h2;rw[aqx k (v/10) (by omega) (by omega)];omega
def bk(l:List Int):List Int:=l.map (fun d=>48+d)
theorem ay3(l m:List Int):bk (l++m)=bk l++bk m:=eI
theorem atP(l:List Int):(bk l).length=l.length:=di _
def Mn(v:Int)(s:List UInt8):Prop:=(v=0∧s=[48])∨(0<v∧∃P,Can 10 P∧vz 10 P=v∧s=Xg P)
theorem Mn.uniq{v:Int}{s t:List UInt8}(h1:Mn v s)(h2:Mn v t):s=t:=by
 rcases h1 with⟨h1,rfl⟩|⟨h1,P,hP,vP,rfl⟩<;>rcases h2 with⟨h2,rfl⟩|⟨h2,Q,hQ,vQ,rfl⟩
 ·rfl
 ·omega
 ·omega
 ·rw[aqv (by omega) hP hQ (by omega)]
theorem awj{d:Int}(h1:0≤d)(h2:d<10):(UInt8.ofNat (48+d.toNat)==48)=(d==0):=by
 obtain⟨d,rfl⟩:∃a:Nat,d=a:=⟨d.toNat,by omega⟩;have:d<10:=by omega
 match d,this with
 |0,_=>rfl
 |1,_=>rfl
 |2,_=>rfl
 |3,_=>rfl
 |4,_=>rfl
 |5,_=>rfl
 |6,_=>rfl
 |7,_=>rfl
 |8,_=>rfl
 |9,_=>rfl
theorem ang:∀{l:List Int},jl 10 l→(l.map (fun d=>UInt8.ofNat (48+d.toNat))).dropWhile (fun c=>c==48)=(l.dropWhile (fun d=>d==0)).map (fun d=>UInt8.ofNat (48+d.toNat))
 |[],_=>rfl
 |d::l,h=>by
  rw[cj,List.dropWhile_cons,List.dropWhile_cons,awj h.head.1 h.head.2]
  split
  ·exact ang h.tail
  ·rfl
theorem atQ{P:List Int}(h:jl 10 P):(bytesOf (bk P).reverse).dropWhile (fun c=>c==48)=Xg (yq P):=by
 have e1:bytesOf (bk P).reverse=(P.reverse).map (fun d=>UInt8.ofNat (48+d.toNat)):=by
  unfold bytesOf bk;rw[List.map_reverse,List.map_map,List.map_reverse];congr 1;refine List.map_congr_left fun d hd=> ?_;show UInt8.ofNat (48+d).toNat=_;have:=(h d hd).1;rw[Int.toNat_add (by omega) this];rfl
 have hd:jl 10 P.reverse:=fun x hx=>h x (List.mem_reverse.1 hx);rw[e1,ang hd,←atK];unfold Xg;rw[List.map_reverse]
theorem aiv{v d:Int}(hv:0<v)(hd:2≤d):jR (v/d)<jR v:=by
 have h1:=abV (v:=v);have h2:jR v≠0:=by intro h0;rw[h0]at h1;simp at h1;omega
 obtain⟨b,hb⟩:∃b,jR v=b+1:=⟨jR v -1,by omega⟩;rw[hb]at h1 ⊢;rw[dP]at h1;refine Nat.lt_succ_of_le (H8 ?_);have hp:(0:Int)<2^b:=fp (by decide);refine Int.ediv_lt_of_lt_mul (by omega) ?_;have:(2:Int)^b*2≤2^b*d:=dF hd (by omega);omega
theorem aiw{n:Nat}:∀(m k:Nat) (s:List UInt8),s.length=m→m<k→i6 n k (s,48,())=some (s.dropWhile (fun c=>c==48),())
 |0,k,s,h1,h2=>by
  obtain⟨k,rfl⟩:=iY k;rw[List.length_eq_zero_iff.1 h1,pn];rfl
 |m+1,k,s,h1,h2=>by
  obtain⟨k,rfl⟩:=iY k
  match s,h1 with
  |c::s,h1=>
   have h1:s.length=m:=by simpa using h1
   rw[pn,af,if_pos (by rw[bF];simp)];have e:GJ (c::s) 0=some (c.toNat:Int):=rfl;have e3:slc (c::s) 1 (((c::s).length:Nat):Int)=some s:=anb (l:=c::s) (k:=1) (by simp);rw[e];simp only[aa,af];rw[List.dropWhile_cons];have e2:((c.toNat:Int)==48)=(c==48):=by
    by_cases hc:c=48
    ·subst hc;rfl
    ·rw[beq_eq_false_iff_ne.2 hc,beq_eq_false_iff_ne];intro h;apply hc;apply UInt8.toNat_inj.1;rw[show(48:UInt8).toNat=48 from rfl];omega
   rw[e2]
   split
   ·rw[e3];simp only[aa];exact aiw m k s h1 (by omega)
   ·rfl
theorem Xh{n:Nat}{s:List UInt8}(hn:s.length<n):nL n (s,[48])=some (s.dropWhile (fun c=>c==48)):=by
 rw[JL]
 match s,hn with
 |[],_=>rfl
 |c::s,hn=>
  have e1:((c::s)==(eB (ByteArray.data (ByteArray.mk (List.toArray [])))))=false:=rfl;have e2:(([48]:List UInt8)==(eB (ByteArray.data (ByteArray.mk (List.toArray [])))))=false:=rfl;rw[e1,e2];have e3:GJ ([48]:List UInt8) 0=some 48:=rfl;simp only[af,cp,if_false,aa];rw[e3];simp only[aa];rw[if_pos (show((([48]:List UInt8).length:Nat):Int)==1 by rfl)];simp only[aa];rw[if_pos (by decide),Cq,aiw _ n _ rfl hn];rfl
theorem Pr{n:Nat}{o:List Int×Unit}:∀(m k j:Nat) (P:List Int) (v:Int),j+m=9→m<k→P.length+m≤1000000000→0≤v→v<4294967296→
  qg n k ((),bk P,v,(j:Int),o,())=some ((),bk (P++akT m v),o,())
 |0,k,j,P,v,h1,h2,h3,h4,h5=>by
  obtain⟨k,rfl⟩:=iY k;rw[yM,sS];simp[akT]
 |m+1,k,j,P,v,h1,h2,h3,h4,h5=>by
  obtain⟨k,rfl⟩:=iY k;rw[yM,jK,lu,pY h4];simp only[aa];rw[wu8 (x:=v % 10),wu8];have e1:app 1 (bk P) [48+v % 10]=some (bk (P++[v % 10])):=by
   unfold app;rw[if_pos (by rw[atP];unfold room;simp;omega),ay3];rfl
  have e2:qt .u32 v 10=some (v/10):=by
   unfold qt;rw[gG,bV h4,arF]
  rw[e1,e2];simp only[aa];rw[aN,show(j:Int)+1=((j+1:Nat):Int)by omega];rw[Pr m k (j+1) _ _ (by omega) (by omega) (by simp;omega) (by omega) (by omega),bn];rfl
theorem Mo{n V:Nat}(hn:2000000000≤n):∀(k:Nat) (x P:List Int),Can 4294967296 x→x.length≤1000000→jl 10 P→jR (vz 4294967296 x)<k→
  P.length+9*jR (vz 4294967296 x)≤900000000→vz 10 P+10^P.length*vz 4294967296 x=(V:Int)→
  ∃Q,qf n k ((),bk P,(x,()),())=some (bk Q,())∧jl 10 Q∧vz 10 Q=(V:Int)∧Q.length≤900000000
 |0,x,P,_,_,_,h,_,_=>by omega
 |k+1,x,P,hx,hxl,hP,hk,hl,hv=>by
  rw[Np];simp only[af,bF]
  split
  ·rename_i h0;have hx0:x≠[]:=by intro h;rw[h]at h0;simp at h0
   have hpos:=Xf (by omega) hx hx0;obtain⟨q,he,hq,hqv,hql⟩:=ay2 (n:=n) (d:=1000000000) (x:=x) ⟨by omega,by omega⟩ hx hxl hn;rw[he];simp only[aa];have h9:=Pr (n:=n) (o:=(q,())) 9 n 0 P (vz 4294967296 x % 1000000000) (by omega) (by omega) (by omega) (by omega) (by omega);rw[show((0:Nat):Int)=0 from rfl]at h9;rw[h9];simp only[aa];have hf:=aiv (v:=vz 4294967296 x) (d:=1000000000) hpos (by omega);rw[←hqv]at hf;have hp9:=ane 9 (vz 4294967296 x % 1000000000);refine Mo hn k q (P++akT 9 (vz 4294967296 x % 1000000000)) hq (by omega) (hP.app (anf _ _)) (by omega) (by rw[ag,hp9];omega) ?_;rw[Mm,aqx 9 _ (by omega) (by have:(10:Int)^9=1000000000:=rfl;omega),ag,hp9,Int.pow_add,hqv,←hv];have e9:(10:Int)^9=1000000000:=rfl;rw[e9];have hdm:=dU (vz 4294967296 x) 1000000000;obtain⟨a,ha⟩:∃a,a=vz 4294967296 x/1000000000:=⟨_,rfl⟩;obtain⟨b,hb⟩:∃b,b=vz 4294967296 x % 1000000000:=⟨_,rfl⟩;rw[←ha,←hb]at hdm ⊢;rw[←hdm]
   grind
  ·rename_i h0;have hx0:x=[]:=List.length_eq_zero_iff.1 (by omega);subst hx0;refine⟨P,rfl,hP,?_,by omega⟩;rw[←hv];simp[vz]
theorem awk{α:Type}{A C:List α}{x y:α}:(A++x::C).set A.length y=A++y::C:=by simp
theorem Ps{n:Nat}{back:List Int}(hb:back.length≤1000000000):∀(m k i:Nat),i+m=back.length→m<k→
  ph n k (back,(),back,(back.length:Int),(i:Int),ao m 0++(back.take i).reverse,())=some ((),back.reverse,())
 |0,k,i,h1,h2=>by
  obtain⟨k,rfl⟩:=iY k;rw[xL,sS,bA (by omega)];rfl
 |m+1,k,i,h1,h2=>by
  obtain⟨k,rfl⟩:=iY k;have hi:i<back.length:=by omega
  rw[xL,jK,bj hi];simp only[aa];have hlen:(ao (m+1) (0:Int)++(back.take i).reverse).length=back.length:=by simp;omega
  rw[aN (x:=(back.length:Int) -1),aN,show(back.length:Int) -1 -(i:Int)=(m:Int)by omega,ej];simp only[aa];rw[ah (by omega)];simp only[aa];rw[aN,show(i:Int)+1=((i+1:Nat):Int)by omega];have e:(ao (m+1) (0:Int)++(back.take i).reverse).set m back[i]=ao m 0++(back.take (i+1)).reverse:=by
   rw[List.replicate_succ',bn];have h:=awk (A:=ao m (0:Int)) (C:=(back.take i).reverse) (x:=0) (y:=back[i]);rw[aY]at h;show(ao m 0++0::(back.take i).reverse).set m back[i]=_;rw[h,show back.take (i+1)=back.take i++[back[i]]by rw[dO,ah hi];rfl,List.reverse_append];rfl
  rw[e];exact Ps hb m k (i+1) (by omega) (by omega)
theorem anh{n:Nat}{x:List Int}(hx:Can 4294967296 x)(hxl:x.length≤1000000)(hn:2000000000≤n):
  ∃s,mP n (x,())=some s∧Mn (vz 4294967296 x) s:=by
 rw[Tw];simp only[af,beq_iff_eq]
 split
 ·rename_i h;have hx0:x=[]:=List.length_eq_zero_iff.1 (by omega);subst hx0;exact⟨_,rfl,.inl ⟨rfl,rfl⟩⟩
 ·rename_i h;have hx0:x≠[]:=by intro h0;rw[h0]at h;simp at h
  have hpos:=Xf (by omega) hx hx0;have hbl:jR (vz 4294967296 x)≤32*x.length:=H8 (by rw[←akS];exact aqt (by omega) hx.1);obtain⟨Q,he,hQ,hv,hl⟩:=Mo (n:=n) (V:=(vz 4294967296 x).toNat) hn n x [] hx hxl jl.nil (by omega) (by simp;omega) (by simp[vz];omega);rw[show bk []=[]from rfl]at he;rw[he];simp only[aa];have hbk:(bk Q).length=Q.length:=atP Q;rw[gY (m:=(bk Q).length) rfl (by omega) (by omega)];simp only[aa];have ht:=Ps (n:=n) (back:=bk Q) (by omega) (bk Q).length n 0 (by omega) (by omega);rw[fm,List.reverse_nil,cK,show((0:Nat):Int)=0 from rfl]at ht;rw[ht];simp only[aa];rw[Xh (by unfold bytesOf;rw[di,List.length_reverse];omega)];simp only[aa];refine⟨_,rfl,.inr ⟨hpos,yq Q,xV hQ,?_,atQ hQ⟩⟩;rw[DX,hv];omega
theorem Gw{n:Nat}{l:List Int}(hb:l.length≤1000000000):∀(m k i:Nat) (z:Bool),i+m=l.length→m<k→(∀x∈l,0≤x)→
  ∃r,rE n k (l,(),z,l,(l.length:Int),(i:Int),([],()),())=some (.inr (l,(),r,([],()),()))∧(r=true↔z=true∨∃x∈l.drop i,x=0)
 |0,k,i,z,h1,h2,h3=>by
  obtain⟨k,rfl⟩:=iY k;rw[Bv,sS];refine⟨z,rfl,?_⟩;rw[bB (by omega)];simp
 |m+1,k,i,z,h1,h2,h3=>by
  obtain⟨k,rfl⟩:=iY k;have hi:i<l.length:=by omega
  rw[Bv,jK,bj hi];have hp:=h3 _ (ak hi);simp only[aa];rw[sS];have e:av z (some true) (some (l[i]==0))=some (z||l[i]==0):=by cases z<;>rfl
  rw[e];simp only[aa];rw[aN,show(i:Int)+1=((i+1:Nat):Int)by omega];obtain⟨r,hr,hr2⟩:=Gw (n:=n) hb m k (i+1) (z||l[i]==0) (by omega) (by omega) h3;refine⟨r,hr,hr2.trans ?_⟩;rw[bz hi];simp only[aB,beq_iff_eq,List.mem_cons,exists_eq_or_imp];exact or_assoc
def oC:List Int→Int
 |[]=>1
 |x::l=>x*oC l
theorem aix(l m:List Int):oC (l++m)=oC l*oC m:=by
 induction l with
 |nil=>simp[oC]
 |cons x l ih=>simp only[eJ,oC,ih,Int.mul_assoc]
theorem apm{l:List Int}(h:(0:Int)∈l):oC l=0:=by
 induction l with
 |nil=>cases h
 |cons x l ih=>
  rcases List.mem_cons.1 h with h |h
  ·simp[oC,←h]
  ·simp[oC,ih h]
theorem ani{l:List Int}{b:Nat}(h:∀x∈l,0≤x∧x≤2^b):0≤oC l∧oC l≤2^(b*l.length):=by
 induction l with
 |nil=>simp[oC]
 |cons x l ih=>
  have h1:=h x aH;have h2:=ih fun y hy=>h y (aF _ hy);have hp:(0:Int)≤2^(b*l.length):=Int.le_of_lt (fp (by decide));refine⟨dq h1.1 h2.1,?_⟩;show x*oC l≤2^(b*(l.length+1));rw[Nat.mul_add,Nat.mul_one,Nat.add_comm,Int.pow_add];exact dR h1.2 h2.2 h2.1 (Int.le_of_lt (fp (by decide)))
theorem afa{v:Int}{k:Nat}(h:v≤2^k):jR v≤k+1:=H8 (by rw[dP];have:(0:Int)<2^k:=fp (by decide);omega)
theorem DY{x:List Int}(hx:Can 4294967296 x){k:Nat}(h:vz 4294967296 x<2^k):32*x.length≤k+32:=by
 by_cases h0:x=[]
 ·subst h0;simp
 ·have h1:=axk (by omega) hx h0;rw[akS]at h1;have h2:(2:Int)^(32*(x.length -1))<2^k:=by omega
  have h3:32*(x.length -1)<k:=by
   apply Decidable.byContradiction;intro hc;have h5:(2:Nat)^k≤2^(32*(x.length -1)):=Nat.pow_le_pow_right (by omega) (by omega);have h6:(2:Int)^k≤2^(32*(x.length -1)):=by exact_mod_cast h5
   omega
  omega
theorem Gx{n:Nat}{l o:List Int}(hb:l.length≤1024)(hl:∀x∈l,0<x∧x≤2^32)(hn:2000000000≤n):∀(m k i:Nat) (z:List Int),i+m=l.length→m<k→
  Can 4294967296 z→vz 4294967296 z=oC (l.take i)→
  ∃z',qe n k ((),(),l,(l.length:Int),(i:Int),(o,()),(z,()),())=some (.inr ((),(),(o,()),(z',()),()))∧Can 4294967296 z'∧vz 4294967296 z'=oC l
 |0,k,i,z,h1,h2,h3,h4=>by
  obtain⟨k,rfl⟩:=iY k;rw[yL,sS];rw[bA (by omega)]at h4;exact⟨z,rfl,h3,h4⟩
 |m+1,k,i,z,h1,h2,h3,h4=>by
  obtain⟨k,rfl⟩:=iY k;have hi:i<l.length:=by omega
  have hp:=hl _ (ak hi);rw[yL,jK,bj hi];simp only[aa];have e32:(2:Int)^32=4294967296:=rfl;rw[Ny];obtain⟨y,hy,cy,vy,ly⟩:=atO (n:=n) (by omega) (v:=l[i]) (by omega) (by omega);rw[hy];simp only[aa];have hz:=ani (l:=l.take i) (b:=32) (fun x hx=>⟨by have:=(hl x (dy hx)).1;omega,(hl x (dy hx)).2⟩);have hti:(l.take i).length=i:=by rw[aC];omega
  rw[hti,←h4]at hz;have b1:=afa hz.2;have b2:=afa (v:=vz 4294967296 y) (k:=32) (by rw[vy];exact hp.2);have lz:=DY h3 (k:=32*i+1) (by rw[dP];have:(0:Int)<2^(32*i):=fp (by decide);omega);obtain⟨w,hw,cw,vw,-⟩:=awh (n:=n) h3 cy (by omega) hn (by omega);rw[hw];simp only[aa];rw[af,if_neg (by simp),aN,show(i:Int)+1=((i+1:Nat):Int)by omega];refine Gx hb hl hn m k (i+1) w (by omega) (by omega) cw ?_;rw[vw,h4,vy,dO,ah hi,Option.toList_some,aix];simp[oC]
theorem YC{n:Nat}{l:List Int}(hb:l.length≤1024)(hl:∀x∈l,0≤x∧x≤2^32)(hn:2000000000≤n):
  ∃z,oL n l=some ((z,()),0)∧Can 4294967296 z∧vz 4294967296 z=oC l:=by
 rw[Ws];obtain⟨r,hr,hr2⟩:=Gw (n:=n) (l:=l) (by omega) l.length n 0 false (by omega) (by omega) (fun x hx=>(hl x hx).1);rw[show((0:Nat):Int)=0 from rfl]at hr;rw[hr];simp only[aa,cY,af];rw[dC]at hr2
 split
 ·rename_i h;have h0:(0:Int)∈l:=by
   rcases hr2.1 h with h |⟨x,hx,rfl⟩
   ·cases h
   ·exact hx
  exact⟨[],rfl,Can.nil,by rw[apm h0];rfl⟩
 ·rename_i h;have hpos:∀x∈l,0<x∧x≤2^32:=by
   intro x hx;have:=hl x hx;refine⟨?_,this.2⟩;have:x≠0:=fun h0=>h (hr2.2 (.inr ⟨x,hx,h0⟩));omega
  obtain⟨y,hy,cy,vy,-⟩:=atO (n:=n) (by omega) (v:=1) (by omega) (by omega);rw[hy];simp only[aa];obtain⟨z,hz,cz,vz'⟩:=Gx (n:=n) (o:=[]) hb hpos hn l.length n 0 y (by omega) (by omega) cy (by rw[vy];rfl);rw[show((0:Nat):Int)=0 from rfl]at hz;rw[hz];exact⟨z,rfl,cz,vz'⟩
end Go.Am.Pu
