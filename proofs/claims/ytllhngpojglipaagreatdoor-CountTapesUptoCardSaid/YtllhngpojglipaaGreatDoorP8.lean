import Derived.Test.YtllhngpojglipaaGreatDoorP7
import Derived.Test.YtllhngpojglipaaGreatDoorP4
import Derived.Test.YtllhngpojglipaaGreatDoorE3
set_option linter.unusedVariables false
set_option linter.unusedSimpArgs false
open Bool renaming and_eq_true→ak,not_true→aY,or_eq_true→aD
open Int renaming ediv_nonneg→e7,toNat_natCast→ax
open Go.IntKind renaming wrap→ae
open List renaming getD_eq_getElem?_getD→aB,getElem?_eq_getElem→ai,getElem_mem→am,getElem_of_mem→aM,length_cons→bg,length_drop→dE,length_take→aC,length→af,mem_cons_self→aH,take_append_drop→bM,take_length→ch,take_zero→eW
open Option renaming bind_some→aa
namespace Go.Am.Pu
open Go Go.Am
noncomputable def wI(n:Nat)(m:Mod)(r:Rq)(said:List Int):List Int:=((jt n (m,r,said)).getD ([],0)).1
noncomputable def TS(n:Nat)(m:Mod)(r:Rq)(said:List Int)(i:Nat):Int:=(wI n m r (said.take i)).getD (said.getD i 0).toNat 0
noncomputable def Ho(n:Nat)(m:Mod)(r:Rq)(said:List Int):List Int:=dL (TS n m r said) said.length
structure uF (m:Mod) (r:Rq) (said:List Int):Prop where
 w:IW m r (said.take (said.length -1))
 t:WB m said
 b:1≤r.2.2.1∧r.2.2.1≤512
theorem IW.len{m:Mod}{r:Rq}{s:List Int}(h:IW m r s):r.1.length+s.length≤512:=by
 obtain⟨D,H,half,C,j,V,L,i⟩:=h.v.1.2.2.2;have:=h.c;have:=i.c;have:=i.uo.cm;omega
theorem uF.len{m:Mod}{r:Rq}{s:List Int}(h:uF m r s):s.length≤512:=by
 have:=h.w.len;have:=List.length_pos_iff.2 h.w.pr;rw[aC]at*;omega
theorem Mt{n:Nat}{m:Mod}{r:Rq}{said:List Int}(hm:MO m)(o:OkR r)(a:IW m r said)(l:Hn0 n):
  iW n (m,r,said)=some (wI n m r said,0)∧jt n (m,r,said)=some (wI n m r said,0)∧((wI n m r said).length:Int)=m.1.1∧(∀x∈wI n m r said,0≤x∧x≤2^r.2.1.2.2.2.2.1.toNat)∧(wI n m r said).sum=2^r.2.1.2.2.2.2.1.toNat:=by
 obtain⟨w,e,d,c,g⟩:=TQ (n:=n) hm o (said:=said) (by have:=a.len;omega) l;have b:wI n m r said=w:=by unfold wI;rw[c];rfl
 have q:I8 r.2.1.2.2.2.2.1=2^r.2.1.2.2.2.2.1.toNat:=by unfold I8;rw[if_pos a.p.bits]
 rcases g with⟨-,rfl,i,j,k⟩|⟨h,-,-⟩
 ·rw[b,←q];exact⟨d,c,i,j,k⟩
 ·exact absurd a h
theorem abh{n:Nat}{m:Mod}{r:Rq}{said:List Int}(hm:MO m)(l:OkR r)(e:uF m r said)(k:Hn0 n){i:Nat}(hi:i<said.length):
  0≤TS n m r said i∧TS n m r said i≤2^r.2.1.2.2.2.2.1.toNat∧TS n m r said i≤4294967296∧
  IW m r (said.take i)∧idx (wI n m r (said.take i)) (said.getD i 0)=some (TS n m r said i):=by
 have g:IW m r (said.take i):=by
  have:=e.w.take i;rw[List.take_take,show min i (said.length -1)=i by omega]at this;exact this
 obtain⟨-,-,q,h,-⟩:=Mt hm l g k;have u:=e.t (said.getD i 0) (by rw[aB,ai hi];exact am hi);obtain⟨t,d⟩:∃t:Nat,said.getD i 0=(t:Int):=⟨(said.getD i 0).toNat,by omega⟩;have a:t<(wI n m r (said.take i)).length:=by omega
 have j:TS n m r said i=(wI n m r (said.take i)).getD t 0:=by unfold TS;rw[d,ax]
 have b:(wI n m r (said.take i)).getD t 0∈wI n m r (said.take i):=by rw[aB,ai a];exact am a
 have c:=h _ b;have o:=TC e.w.p.bits;rw[j,d];exact⟨c.1,c.2,by omega,g,eU a⟩
theorem awy{n:Nat}{m:Mod}{r:Rq}{said:List Int}{o:List Int×Unit}(q:said.length≤1048576)(p:Hn0 n){j:Nat}(i:j=said.length -1):
  (WB m (said.drop j)∧jc n n (said,(),(),(),said.drop j,(((said.drop j).length:Nat):Int),0,m,r,o,())=some (.inr (said,(),(),(),m,r,o,()))∧
    k8 n n (said,(),(),said.drop j,(((said.drop j).length:Nat):Int),0,m,r,())=some (.inr (said,(),(),m,r,())))∨
  (¬ WB m (said.drop j)∧jc n n (said,(),(),(),said.drop j,(((said.drop j).length:Nat):Int),0,m,r,o,())=some (.inl ((),133,([],()),()))∧
    k8 n n (said,(),(),said.drop j,(((said.drop j).length:Nat):Int),0,m,r,())=some (.inl ([],133,()))):=by
 obtain⟨n,rfl⟩:∃k,n=k+2:=⟨n -2,by omega⟩;obtain⟨N,g⟩:∃N,N=n+2:=⟨_,rfl⟩;obtain⟨o0,u⟩:=o;rcases d:said.drop j with _ |⟨x,l⟩
 ·left;refine⟨fun t a=>absurd a List.not_mem_nil,?_,?_⟩
  ·rw[ld,ag,if_neg (by decide)]
  ·rw[ph,ag,if_neg (by decide)]
 ·have e:l=[]:=by
   have:=congrArg af d;rw[dE,bg]at this;exact List.eq_nil_of_length_eq_zero (by omega)
  subst e;have b:idx [x] (0:Int)=some x:=rfl;have d1:ae .i64 ((0:Int)+1)=1:=aN (by decide) (by decide);rw[ld,ph,ag,ag,if_pos (by simp),if_pos (by simp),b];simp only[aa,eC,d1];rw[ag,ag]
  by_cases c:0≤x∧x<m.1.1
  ·left;refine⟨fun t a=>by rw[List.mem_singleton]at a;subst a;exact c,?_,?_⟩
   ·rw[if_neg (by rw[aD,bx,bx];omega),ld,ag,if_neg (by simp)]
   ·rw[if_neg (by rw[aD,bx,bx];omega),ph,ag,if_neg (by simp)]
  ·right;refine⟨fun h=>c (h x aH),?_,?_⟩
   ·rw[if_pos (by rw[aD,bx,bx];omega)]
   ·rw[if_pos (by rw[aD,bx,bx];omega)]
theorem awz{n:Nat}{m:Mod}{r:Rq}{said:List Int}{o:List Int×Unit}(hm:MO m)(d:OkR r)(c:uF m r said)(b:Hn0 n):
  dt n n (said,(),(),(),[],said,(said.length:Int),0,m,r,o,())=some (.inr ((),Ho n m r said,o,())):=by
 have u:=c.len;obtain⟨o0,h⟩:=o;refine ba (L:=fun k j s=>dt n k (said,(),(),(),s,said,(said.length:Int),j,m,r,(o0,h),())) (len:=said.length) (fun i=>dL (TS n m r said) i) ?_ ?_ n (by omega)
 ·intro k i a;obtain⟨p,q,t,e,g⟩:=abh hm d c b a;obtain⟨l,-⟩:=Mt hm d e b;show dt n (k+1) _=dt n k _;rw[kg,bP0,eU a,vk];simp only[aa];rw[l];simp only[aa];rw[show((0:Int)!=0)=false from rfl,bU,g];simp only[aa];rw[fv _ (by unfold room;omega) (by unfold room;omega)];simp only[aa];rw[aN]
 ·intro k;show dt n (k+1) _=_;rw[kg,ag,if_neg (by simp)];rfl
theorem asd{n:Nat}{m:Mod}{r:Rq}{said:List Int}(hm:MO m)(g:OkR r)(e:uF m r said)(b:Hn0 n):∀(q k i:Nat) (z:List Int),i+q=said.length→q<k→
  Can 65536 z→vz 65536 z=kr (dL (TS n m r said) i)→z.length≤1+4*i→
  ∃a,ne n k (said,(),(),z,said,(said.length:Int),(i:Int),m,r,())=some (a,())∧Can 65536 a∧vz 65536 a=kr (Ho n m r said)∧a.length≤1+4*said.length
 |0,k,i,z,l,o,c,d,h=>by
  obtain⟨k,rfl⟩:=gU k;have:i=said.length:=by omega
  subst this;rw[uC,ag,if_neg (by simp)];exact⟨z,rfl,c,d,h⟩
 |q+1,k,i,z,l,o,c,d,h=>by
  obtain⟨k,rfl⟩:=gU k;have j:i<said.length:=by omega
  have E:=e.len;obtain⟨f1,f2,f3,f4,f5⟩:=abh hm g e b j;obtain⟨-,p,-⟩:=Mt hm g f4 b;rw[uC,bP0,eU j,vk];simp only[aa];rw[p];simp only[aa];rw[f5];simp only[aa];obtain⟨y,t,u,w,F⟩:=arN (n:=n) (by omega) f1 (by omega);rw[t];simp only[aa];obtain⟨a,x,B,D,H⟩:=aoN (n:=n) c.1 u.1 (by omega) b;rw[x];simp only[aa];rw[aN,show(i:Int)+1=((i+1:Nat):Int)by omega];refine asd hm g e b q k (i+1) a (by omega) (by omega) B ?_ (by omega);rw[D,d,w,mH,Wv];simp[kr]
theorem prods{n:Nat}{m:Mod}{r:Rq}{said:List Int}(hm:MO m)(j:OkR r)(M:said.length≤1048576)(a:Hn0 n):
  (¬ uF m r said∧∃e,e≠0∧jl n (m,r,said)=some (([],()),e)∧kQ n (m,r,said)=some ([],e))∨
  (uF m r said∧∃z d,jl n (m,r,said)=some ((z,()),0)∧kQ n (m,r,said)=some (d,0)∧Can 4294967296 z∧Can 65536 d∧
   vz 4294967296 z=kr (Ho n m r said)∧vz 65536 d=kr (Ho n m r said)∧d.length≤1+4*said.length):=by
 have E:imax (0:Int) (ae .i64 ((said.length:Int) -1))=((said.length -1:Nat):Int):=by
  rw[aN];unfold imax
  split<;>omega
 have D:av (decide ((said.length:Int)>0)) (some (ae .i64 ((said.length:Int) -1))) (some (said.length:Int))=some ((said.length -1:Nat):Int):=by
  rw[ag]
  split
  ·rename_i h;rw[bx]at h;rw[aN];congr 1;omega
  ·rename_i h;rw[bx]at h;congr 1;omega
 rw[AE,PF,E,D];simp only[aa];rw[vk];simp only[aa];obtain⟨w,e,I,J,K⟩:=TQ (n:=n) hm j (said:=said.take (said.length -1)) (by rw[aC];omega) a;rw[I,J];simp only[aa];rcases K with⟨k,rfl,-,-,-⟩|⟨k,B,rfl⟩
 ·rw[show((0:Int)!=0)=false from rfl,bU,bU,alI];simp only[aa];rcases awy (n:=n) (m:=m) (r:=r) (said:=said) (o:=([],())) M a rfl with⟨q,u,y⟩|⟨q,u,y⟩
  ·have F:WB m said:=by
    rw[←bM (said.length -1) said];exact Bu.2 ⟨(Bu.1 k.t).2,q⟩
   rw[u,y];simp only[aa,cI,eC];rw[ag,ag]
   by_cases c:1≤r.2.2.1∧r.2.2.1≤512
   ·right;have g:uF m r said:=⟨k,F,c⟩;refine⟨g,?_⟩;have U:=g.len;rw[if_neg (by rw[aD,bx,bx];omega),if_neg (by rw[aD,bx,bx];omega),awz hm j g a];simp only[aa,cI];obtain⟨z,R,S,T⟩:=XY (n:=n) (l:=Ho n m r said) (by rw[Ho,Bh];omega) (fun x p=>by
     obtain⟨i,L,rfl⟩:=iO p;have:=abh hm j g a L;exact⟨this.1,this.2.2.1⟩) a
    obtain⟨d,H,O,P,Q⟩:=asd hm j g a said.length n 0 [1] (by omega) (by omega) ⟨by intro x p;rw[List.mem_singleton]at p;subst p;omega,by simp⟩ (by rfl) (by simp);rw[show((0:Nat):Int)=0 from rfl]at H;rw[R,H];exact⟨z,d,rfl,rfl,S,O,T,P,Q⟩
   ·left;refine⟨fun h=>c h.b,251,by decide,?_,?_⟩
    ·rw[if_pos (by rw[aD,bx,bx];omega)]
    ·rw[if_pos (by rw[aD,bx,bx];omega)]
  ·left;rw[u,y];exact⟨fun h=>q fun t N=>h.t t (List.mem_of_mem_drop N),133,by decide,rfl,rfl⟩
 ·left;refine⟨fun h=>k h.w,e,B,?_,?_⟩
  ·rw[show(e !=0)=true by simpa using B,ii]
  ·rw[show(e !=0)=true by simpa using B,ii]
def TT(l:List Int):Int:=match l.findIdx? (·==0)with
 |some i=>(i:Int)
 |none=> -1
theorem WC{l:List Int}(h:∀i,i<l.length→l.getD i 0≠0):TT l= -1:=by
 have:l.findIdx? (·==0)=none:=by
  rw[List.findIdx?_eq_none_iff];intro x b;obtain⟨i,a,rfl⟩:=aM b;have:=h i a;rw[aB,ai a]at this;simpa using this
 unfold TT;rw[this]
theorem WD{l:List Int}{j:Nat}(b:j<l.length)(a:l.getD j 0=0)(h:∀i,i<j→l.getD i 0≠0):TT l=(j:Int):=by
 have:l.findIdx? (·==0)=some j:=by
  rw[List.findIdx?_eq_some_iff_getElem];refine⟨b,?_,fun i c=> ?_⟩
  ·rw[aB,ai b]at a;simpa using a
  ·have:=h i c;rw[aB,ai (by omega)]at this;simpa using this
 unfold TT;rw[this]
theorem ahG{n:Nat}{l:List Int}(o:l.length≤1000000000)(p:Hn0 n):wU n l=some (TT l):=by
 rw[adp];rcases cZ (L:=fun k j (_:Unit)=>lE n k (l,(l.length:Int),j,())) (len:=l.length) (fun _=>()) (fun i=>l.getD i 0≠0) (fun i=> .inl ((i:Int),())) (.inr ()) (by
  intro k j g _;show(_∧lE n (k+1) _=_)∨(_∧lE n (k+1) _=_);rw[Fu,bP0,eU g,aa,ag]
  by_cases c:l.getD j 0=0
  ·rw[if_pos (by rw[beq_iff_eq];exact c)];exact .inr ⟨fun h=>h c,rfl⟩
  ·rw[if_neg (by rw[beq_iff_eq];exact c),aN];exact .inl ⟨c,rfl⟩) (by
  intro k;show lE n (k+1) _=_;rw[Fu,ag,if_neg (by simp)]) n (by omega)with⟨a,b⟩|⟨j,a,b,d,e⟩
 ·rw[b,aa,WC a];rfl
 ·rw[e,aa,WD a (Decidable.not_not.1 d) b];rfl
theorem TU{n:Nat}{l:List Int}(o:l.length≤1000000000)(p:Hn0 n):fS n (l,0)=some (TT l):=by
 rw[uw];rcases cZ (L:=fun k j (_:Unit)=>cQ n k (l,0,(l.length:Int),j,())) (len:=l.length) (fun _=>()) (fun i=>l.getD i 0≠0) (fun i=> .inl ((i:Int),())) (.inr ()) (by
  intro k j g _;show(_∧cQ n (k+1) _=_)∨(_∧cQ n (k+1) _=_);rw[je,bP0,eU g,aa,ag]
  by_cases c:l.getD j 0=0
  ·rw[if_pos (by rw[beq_iff_eq];exact c.symm)];exact .inr ⟨fun h=>h c,rfl⟩
  ·rw[if_neg (by rw[beq_iff_eq];exact fun h=>c h.symm),aN];exact .inl ⟨c,rfl⟩) (by
  intro k;show cQ n (k+1) _=_;rw[je,ag,if_neg (by simp)]) n (by omega)with⟨a,b⟩|⟨j,a,b,d,e⟩
 ·rw[b,aa,WC a];rfl
 ·rw[e,aa,WD a (Decidable.not_not.1 d) b];rfl
def agm(r:Rq)(l:List Int):Bool:=decide (1≤r.2.2.1∧(l.length:Int)≤r.2.2.1∧(0≤TT l→TT l=(l.length:Int) -1)∧(TT l<0→(l.length:Int)=r.2.2.1))
theorem LP{n:Nat}{r:Rq}{l:List Int}(b:l.length≤1000000000)(c:Hn0 n):n4 n (r,l)=some (agm r l):=by
 rw[VJ,TU b c,aa,eC,aa];simp only[ag];unfold agm;rw[aN]
 split
 ·rename_i h;rw[aD,bx,bx]at h;rw[decide_eq_false (by omega)]
 ·rename_i h;rw[aD,bx,bx]at h
  split
  ·rename_i a;rw[bx]at a;congr 1;rw[Bool.eq_iff_iff,beq_iff_eq,bx];omega
  ·rename_i a;rw[bx]at a;congr 1;rw[Bool.eq_iff_iff,beq_iff_eq,bx];omega
theorem Yf{n:Nat}{r:Rq}{l:List Int}(b:l.length≤1000000000)(c:Hn0 n):oi n (r,l)=some (agm r l):=by
 rw[Wc,ahG b c,aa,fw,aa];simp only[ag];unfold agm;rw[aN]
 split
 ·rename_i h;rw[bx]at h;rw[decide_eq_false (by omega)]
 ·rename_i h;rw[bx]at h
  split
  ·rename_i a;rw[bx]at a;congr 1;rw[Bool.eq_iff_iff,ak,beq_iff_eq,bx,bx];omega
  ·rename_i a;rw[bx]at a;congr 1;rw[Bool.eq_iff_iff,beq_iff_eq,bx];omega
theorem amk{n:Nat}{b:Int}(h:p8 b):vO n b=some true:=by
 rw[VI];rcases h with rfl |rfl |rfl |rfl |rfl |rfl<;>rfl
theorem LQ{b:Int}(h:p8 b):1≤b∧b≤32:=by
 rcases h with rfl |rfl |rfl |rfl |rfl |rfl<;>decide
theorem aeK{n:Nat}{b y:Int}(h:p8 b)(c:0≤y)(d:y≤8191):sW n (b,y)=some (8*y/b,0):=by
 have e:=LQ h;have g:0≤8*y/b:=e7 (by omega) (by omega);have a:8*y/b≤8*y:=Int.ediv_le_self _ (by omega);rw[Z3,amk h,aa];show av (!true) _ _=_;rw[aY,bU,eC,aa,ag,if_neg (by rw[aD,bx,bx];omega),aN,zh (by omega) (by rw[bV];omega) (by rw[bV];omega),bV,aa]
theorem aeL{n:Nat}{m:Mod}{r:Rq}{said:List Int}(hm:MO m)(e:OkR r)(d:uF m r said)(c:Hn0 n):
  0≤kr (Ho n m r said)∧kr (Ho n m r said)≤2^(r.2.1.2.2.2.2.1.toNat*said.length):=by
 have:=alO (l:=Ho n m r said) (b:=r.2.1.2.2.2.2.1.toNat) (fun x g=>by
  obtain⟨i,a,rfl⟩:=iO g;have:=abh hm e d c a;exact⟨this.1,this.2.1⟩)
 rwa[show(Ho n m r said).length=said.length by rw[Ho,Bh]]at this
theorem LR{n:Nat}{r:Rq}(h:OkR r)(F:Hn0 n):rC n r=some r:=by
 obtain⟨p,⟨g,e,tk,j,d,a⟩,q,u,t,⟨o,c⟩,w⟩:=r;have H:p.length≤1048576:=h.p;have E:a.length≤1048576:=h.b;have B:o.length≤1048576:=h.g1;have D:c.length≤1048576:=h.g2;have y:=ba (L:=fun k i s=>pG n k ((),(),(),(),i,(p,(g,e,tk,j,d,a),q,u,t,(o,c),w),([],0,0,0,0,0,[],0,0,0,[],[],[],()),(p,g,e,tk,j,d,s,q,u,t,[],[],w,()),(g,e,tk,j,d,a),())) (len:=a.length)
  (r:=((),(),(),(p,(g,e,tk,j,d,a),q,u,t,(o,c),w),([],0,0,0,0,0,[],0,0,0,[],[],[],()),(p,g,e,tk,j,d,a,q,u,t,[],[],w,()),())) (fun i=>a.take i) (by
   intro k i x;show pG n (k+1) _=_;rw[IC,ag,if_pos (by rw[bx];show(i:Int)<(a.length:Int);omega)];show(idx a (i:Int)).bind _=_;rw[bj x,aa];rw[aa];show(app 16 (a.take i) [a[i]]).bind _=_;rw[FC x (by omega) (by omega),aa,aN]) (by
   intro k;show pG n (k+1) _=_;rw[IC,ag,if_neg (by rw[bx];show ¬ (a.length:Int)<(a.length:Int);omega),ch]) n (by omega)
 have z:=ba (L:=fun k i s=>n6 n k ((),(),(),i,(p,(g,e,tk,j,d,a),q,u,t,(o,c),w),([],0,0,0,0,0,[],0,0,0,[],[],[],()),(p,g,e,tk,j,d,a,q,u,t,o,s,w,()),())) (len:=c.length)
  (r:=((),(),([],0,0,0,0,0,[],0,0,0,[],[],[],()),(p,g,e,tk,j,d,a,q,u,t,o,c,w,()),())) (fun i=>c.take i) (by
   intro k i x;show n6 n (k+1) _=_;rw[Fk,ag,if_pos (by rw[bx];show(i:Int)<(c.length:Int);omega)];show(idx c (i:Int)).bind _=_;rw[bj x,aa];rw[FC x (by omega) (by omega),aa,aN]) (by
   intro k;show n6 n (k+1) _=_;rw[Fk,ag,if_neg (by rw[bx];show ¬ (c.length:Int)<(c.length:Int);omega),ch]) n (by omega)
 rw[eW]at y z;rw[afB];simp only;rw[Mk (l:=p),aa,y,aa];simp only;rw[Mk (l:=o),aa,z];rfl
end Go.Am.Pu
