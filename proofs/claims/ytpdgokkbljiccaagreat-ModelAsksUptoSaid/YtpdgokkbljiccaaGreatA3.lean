import Derived.Test.YtpdgokkbljiccaaGreatA2
import Derived.Laws.StructEq
import Derived.Laws.BytesArg
import Derived.ChangeKeysEq
import Derived.Laws.Cover3
import Derived.MapKept
import Derived.WideKeyRuns
import Derived.LaidEqlPtr
set_option linter.unusedVariables false
set_option linter.unusedSimpArgs false
open Array renaming getElem?_eq_getElem→ak,getElem?_toList→aD
open Bool renaming and_eq_true→ah,not_eq_true'→cd
open List renaming append_nil→ab1,cons_append→cK,getElem?_append_left→aU,getElem?_append_right→bc,getElem?_eq_getElem→ai,getElem?_eq_none→bv,getElem?_set_ne→cA,getElem?_set_self→cB,getElem?_take→ax,length→ac,map_append→acl,map_cons→bo,mem_cons_of_mem→bK,mem_cons_self→cC,mem_of_getElem?→bW,range→abY
open Nat renaming add_assoc→cX,add_zero→cR,beq→bh,blt_eq→cS,eq_of_beq_eq_true→aj,le_refl→av,lt_of_lt_of_le→bi,lt_or_ge→dz,zero_add→b9
open Go.Value renaming int→aX,oneCell'→dp
open Go.World renaming cell?_of_block→aL
namespace Go.Am
open Go
section
variable {P:Program} {w0:W0} {w w':World} {Z0 Zp:bj} {h h':aP} {g:G} {new next base:Nat} {r:A} {L L':Log} {X:Cx}
theorem bF(c:EA P X.tt){t:TypeId}{k:TD→HM}{a:A×aP×Log}(e:(fU X t k).eval next h L=some a):∃d,bP t X.tt=some d∧dk P t d∧(k d).eval next h L=some a:=by
 unfold fU at e
 split at e
 ·rename_i d b;exact⟨d,b,c.get b,e⟩
 ·exact(af e).elim
theorem o9{d:TD}{k:Ty→HM}{a:A×aP×Log}(e:(DA d k).eval next h L=some a):∃τ,d.ty=some τ∧(k τ).eval next h L=some a:=by
 unfold DA at e
 split at e
 ·rename_i τ b;exact⟨τ,b,e⟩
 ·exact(af e).elim
theorem bl.val(R:HR w0 Z0 Zp h g w){s:Sem Value}{v:Value}(hr:s.run P w= .ok v w)(a:AR w w0.heap.size Zp h g r v):bl P w0 Z0 Zp h g w new (s >>= fun x=>Pure.pure (Next.value x)) r h:=
 bl.pure R (v:=v) (by simp[hr]) a
theorem Tm{x:A}{v:Value}{j:Nat}(o:AR w base Zp h g x v)(e:(Ml x j).eval next h L=some (r,h',L')):h'=h∧∃u,(Instr.extract v j).run P w= .ok u w∧AR w base Zp h g r u:=by
 unfold Ml at e
 split at e
 ·rename_i ps
  split at e
  ·rename_i t p i;have e:=dg e
   cases e;obtain⟨b,rfl,l⟩:=o;have c:=bY.get (k:=1) (fun x q ⟨u,a,_⟩=>by rw[a];rfl) ps b l j _ i;obtain⟨u,a,n⟩:=c;have d:b[j]? =some u:=by
    have:=getElem?_sub b (j*1) 1 0 u (by rw[a];rfl);simpa using this
   exact⟨rfl,u,by simp[Instr.extract,d],n⟩
  ·exact(af e).elim
 ·exact(af e).elim
theorem w5{f:Int→Int→Int}{k:IntKind}{F:Value→Value→Sem Value}(hF:∀a b,F (.int k a) (.int k b)=pure (.int k (f a b))):∀(as:List A) (vs:List Value) (n:Int),
  bY (fun a j=>∃u,j=[u]∧AR w base Zp h g a u) as vs→(zG f k n as).eval next h L=some (r,h',L')→h'=h∧∃u,(vs.foldlM F (.int k n)).run P w= .ok u w∧AR w base Zp h g r u
 |[],vs,n,l,e=>by
  simp only[bY]at l;subst l;obtain⟨rfl,rfl,_⟩:=dt e;exact⟨rfl,.int k n,by simp,AR.jU rfl⟩
 |a::as,vs,n,⟨j,d,o,⟨u,p,D⟩,B⟩,e=>by
  subst p;subst o;unfold zG at e
  split at e
  ·rename_i q;cases q
  ·rename_i I H m J i
   cases i
   split at e
   ·rename_i z _;subst z;have:=D.c;simp only[CR]at this;subst this;obtain⟨t,E,x,y⟩:=w5 hF as d _ B e;exact⟨t,E,by simp[List.foldlM_cons,hF,x],y⟩
   ·exact(af e).elim
  ·exact(af e).elim
theorem LY{env:Env}{a:Act}(d:∀t,AR w base Zp h g (look aA t env) (a.tmps.getD t undef)):∀(c:List Operand),bY (fun b i=>∃u,i=[u]∧AR w base Zp h g b u) (c.map (sV env)) (c.map a.eval)
 |[]=>rfl
 |x::c=>⟨[a.eval x],_,rfl,⟨_,rfl,ce d x⟩,LY d c⟩
theorem MG(R:HR w0 Z0 Zp h g w){env:Env}{a:Act}(p:∀t,AR w w0.heap.size Zp h g (look aA t env) (a.tmps.getD t undef)):∀(j:List Operand) (d:List Nat),Rg (j.map (sV env))=some d→
  bY (fun o q=>g.al o∧∃u,q=[u]∧Cg u∧(look .dead o h≠.dead→∃b,g.hm o=some b∧u= .pointer (some ⟨b,0,none⟩))) d (j.map a.eval)
 |[],d,e=>by simp[Rg,nZ]at e;subst e;rfl
 |x::j,d,e=>by
  have i:=ce p x;simp only[Rg,bo,nZ]at e
  split at e
  ·rename_i o l
   split at e
   ·rename_i os n
    cases e;have y:=MG R p j os n
    split at l
    ·rename_i z k
     cases l;rw[k]at i;exact⟨[a.eval x],_,rfl,⟨i.c.1,_,rfl,i.c.2.1,i.c.2.2⟩,y⟩
    ·cases l
   ·cases e
  ·cases e
theorem XO{s:List UInt8}{i n:Int}(a:acI s i=some n):0≤i∧∃b:UInt8,s[i.toNat]? =some b∧n=(b.toNat:Int):=by
 unfold acI at a
 split at a
 ·rename_i d
  cases c:s[i.toNat]? with
  |none=>simp[c]at a
  |some b=>simp[c]at a;exact⟨d,b,rfl,a.symm⟩
 ·cases a
theorem Zn{α:Type}{c:Array α}{a b:α}(h:c.toList=[a,b]):c= #[a,b]:=by
 apply Array.ext';simpa using h
theorem aeT{α:Type}{b:Array α}{a:α}(h:b.toList=[a]):b= #[a]:=by
 apply Array.ext';simpa using h
theorem zT{α β:Type}{f:α→β}{l:List α}{a b:β}(h:l.map f=[a,b]):∃x y,l=[x,y]∧f x=a∧f y=b:=by
 match l,h with
 |[x,y],h=>simp at h;exact⟨x,y,rfl,h.1,h.2⟩
theorem VL{α β:Type}{f:α→β}{l:List α}{a:β}(h:l.map f=[a]):∃x,l=[x]∧f x=a:=by
 match l,h with
 |[x],h=>simp at h;exact⟨x,rfl,h⟩
theorem Tn{t:TypeId}{s:A}{v:Value}{c:Nat}{y:Option (Nat×Nat×Nat)}(b:AR w base Zp h g s v)(a:aaS X t s=some (c,y)):CR w base Zp h g (.gs c y) v:=by
 unfold aaS at a
 split at a
 ·cases a;exact b.c
 ·split at a
  ·cases a;exact b.c
  ·cases a
 ·cases a
theorem To(p:EA P X.tt)(hV:O2 P X.zF)(R:HR w0 Z0 Zp h g w)(hn:¬ g.al new){env:Env}{a:Act}(K:∀t,AR w w0.heap.size Zp h g (look aA t env) (a.tmps.getD t undef)){b:Builtin}{ts:Array TypeId}{ty:TypeId}{j:Array Operand}{cs:Array Bool}
  (e:(Mk X new b ts.toList (j.toList.map (sV env))).eval next h L=some (r,h',L')):bl P w0 Z0 Zp h g w new (builtin b ts ty cs (j.map a.eval)) r h':=by
 generalize S:ts.toList=tl at e;generalize q:j.toList.map (sV env)=al at e;unfold Mk at e
 split at e
 ·
  rename_i t x;obtain⟨x0,hx0,E⟩:=VL q;have B:=aeT S;have has:=aeT hx0;subst B;subst has;have D:=ce K x0;rw[E]at D
  split at e
  ·rename_i d J;have T:=p.get J
   split at e
   ·rename_i te i;obtain⟨rfl,n,ad,c,hv,rfl⟩:=Zb R D e;refine bl.val R (v:=.int .i64 n) ?_ (AR.jU rfl);simp[hv,Builtin.len_,run_underlying (T.slice i),goInt]
   ·rename_i s i;obtain⟨rfl,rfl,_⟩:=dt e;have hv:=D.c;simp only[CR]at hv;refine bl.val R (v:=.int .i64 s.length) ?_ (AR.jU rfl);simp[hv,Builtin.len_,run_underlying (T.string i),goInt,zN]
   ·rename_i n te i;obtain⟨rfl,rfl,_⟩:=dt e;refine bl.val R (v:=.int .i64 n) ?_ (AR.jU rfl);simp[Builtin.len_,run_underlying (T.array i),goInt]
   ·exact(af e).elim
  ·exact(af e).elim
 ·
  rename_i t u s x;obtain⟨s0,x0,Q,O,E⟩:=zT q;have B:=Zn S;have has:=Zn Q;subst B;subst has;have D:=ce K x0;have N:=ce K s0;rw[E]at D;rw[O]at N
  split at e
  ·rename_i d du J z
   split at e
   ·rename_i te tu i l
    split at e
    ·rename_i de Y
     split at e
     ·rename_i c y M
      split at e
      ·rename_i V I hpos;have:=Tj (new:=new) (ty:=ty) R (p.get J) (p.get z) (p.get Y) i l (hV.get I) (by simpa[cS]using hpos) (Tn N M) D e;simpa[builtin]using this
      ·exact(af e).elim
     ·split at e
      ·rename_i τ hτ
       split at e
       ·rename_i hc;simp only[ah]at hc;have:=VI (ty:=ty) R hn (p.get J) (p.get z) (p.get Y) i l hc.2 hτ N D e;simpa[builtin]using this
       ·exact(af e).elim
      ·exact(af e).elim
    ·exact(af e).elim
   ·exact(af e).elim
  ·exact(af e).elim
 ·
  rename_i t u s x;obtain⟨s0,x0,Q,O,E⟩:=zT q;have B:=Zn S;have has:=Zn Q;subst B;subst has;have D:=ce K x0;have N:=ce K s0;rw[E]at D;rw[O]at N
  split at e
  ·rename_i d du J z
   split at e
   ·rename_i te tu i l
    split at e
    ·rename_i c y M
     split at e
     ·rename_i V I;have:=XM (new:=new) (ty:=ty) R (p.get J) (p.get z) i l (hV.get I) (Tn N M) D e;simpa[builtin]using this
     ·exact(af e).elim
    ·split at e
     ·rename_i o _;have:=XN (new:=new) (ty:=ty) p R (p.get J) (p.get z) i l N.c D e;simpa[builtin]using this
     ·exact(af e).elim
   ·exact(af e).elim
  ·exact(af e).elim
 ·
  rename_i k n H;have Z:=LY K j.toList;rw[q]at Z;obtain⟨es,U,h1,⟨u,h2,h3⟩,h4⟩:=Z;subst h2;have W:=h3.c;simp only[CR]at W;subst W;obtain⟨rfl,u,h6,h7⟩:=w5 (P:=P) (F:=Builtin.max2) (fun a b=>rfl) H U n h4 e;refine bl.val R (v:=u) ?_ h7;simp only[Builtin.max_,Array.toList_map,h1,List.singleton_append];exact h6
 ·
  rename_i k n H;have Z:=LY K j.toList;rw[q]at Z;obtain⟨es,U,h1,⟨u,h2,h3⟩,h4⟩:=Z;subst h2;have W:=h3.c;simp only[CR]at W;subst W;obtain⟨rfl,u,h6,h7⟩:=w5 (P:=P) (F:=Builtin.min2) (fun a b=>rfl) H U n h4 e;refine bl.val R (v:=u) ?_ h7;simp only[Builtin.min_,Array.toList_map,h1,List.singleton_append];exact h6
 ·exact(af e).elim
end
section
variable {P:Program} {w0:W0} {w w':World} {Z0 Zp:bj} {h h':aP} {g:G} {new next base:Nat} {r:A} {L L':Log} {X:Cx}
theorem toListBytes_eq(a b:List UInt8):((⟨a.toArray⟩:ByteArray).toList==(⟨b.toArray⟩:ByteArray).toList)=(a==b):=by rw[S6,S6]
theorem ET{R S:Array Value}(d:Nat):∀(E:List Field) (i:Nat) (τs:List Ty) (cs o:List C) (D vs:List Value) (b:Bool),Rq P i E τs=true→aaP τs cs o=some b→cw w base Zp h g cs D→cw w base Zp h g o vs→
  (∀j u,D[j]? =some u→R[i+j]? =some u)→(∀j u,vs[j]? =some u→S[i+j]? =some u)→(Op.eqFields (d+1) R S E).run P w= .ok b w
 |[],i,τs,cs,o,D,vs,b,t,n,T,U,M,O=>by
  cases τs with
  |cons _ _=>cases t
  |nil=>
   cases cs with
   |cons _ _=>cases n
   |nil=>
    cases o with
    |cons _ _=>cases n
    |nil=>cases n;rfl
 |f::E,i,τs,cs,o,D,vs,b,t,n,T,U,M,O=>by
  cases τs with
  |nil=>cases t
  |cons τ τs=>
   cases cs with
   |nil=>cases n
   |cons c cs=>
    cases o with
    |nil=>cases n
    |cons V o=>
     simp only[Rq,ah]at t;obtain⟨⟨⟨Z,F⟩,y⟩,t⟩:=t;have F:=aj F;simp only[aaP]at n
     split at n
     ·rename_i p q l hq
      cases n;obtain⟨u,D,rfl,z,J⟩:=T;obtain⟨v,vs,rfl,B,K⟩:=U;have ih:=ET d E (i+1) τs cs o D vs q t hq J K
       (fun j u H=>by have:=M (j+1) u (by simpa using H);rwa[show i+(j+1)=i+1+j by omega]at this)
       (fun j u H=>by have:=O (j+1) u (by simpa using H);rwa[show i+(j+1)=i+1+j by omega]at this)
      have N:R[f.offset]? =some u:=by rw[F];simpa using M 0 u rfl
      have Q:S[f.offset]? =some v:=by rw[F];simpa using O 0 v rfl
      have x:P.plainKey f.type=true∧(Op.equalIn (d+1) f.type u v).run P w= .ok p w:=by
       cases a:P.underlying f.type with
       |none=>rw[a]at y;cases τ<;>cases y
       |some k=>
        rw[a]at y
        cases c<;>cases V<;>simp only[eqC]at l<;>try (cases l;done)
        ·split at l
         ·cases l
          cases k<;>first |(cases y;done)|skip
          simp only[CR]at z B;subst z;subst B;exact⟨by simp[Program.plainKey,a],Go.run_equalIn_bool w d _ _ _ a⟩
         ·cases l
        ·split at l
         ·rename_i q0
          split at l
          ·rename_i W Y _ _
           cases l
           cases k<;>first |(cases y;done)|skip
           simp only[CR]at z B;subst z;subst B;subst W;subst Y;exact⟨by simp[Program.plainKey,a],run_equalIn_int w d _ _ _ _ _ a⟩
          ·cases l
         ·cases l
        ·split at l
         ·cases l
          cases k<;>first |(cases y;done)|skip
          simp only[CR]at z B;subst z;subst B;rename_i s1 s2 _;have:=run_equalIn_string w d _ ⟨s1.toArray⟩ ⟨s2.toArray⟩ a;rw[toListBytes_eq]at this;exact⟨by simp[Program.plainKey,a],this⟩
         ·cases l
      have I:f.name≠ "_":=by simpa using Z
      simp only[Op.eqFields,if_pos I,Sem.run_bind,run_part_plain w x.1 N,run_part_plain w x.1 Q,x.2,Result.andThen_ok]
      cases p with
      |true=>simpa using ih
      |false=>simp
     ·cases n
theorem aa7{op:BinOp}{t:TypeId}{d:TD}(T:dk P t d){x y:Operand}{cs:List C}{H:A}{D E:Value}(M:AR w base Zp h g (.v true cs) D)(N:AR w base Zp h g H E)(e:(eqA op d cs H).eval next h L=some (r,h',L')):
  h'=h∧∃c v,r= .v false [c]∧(do eqGuard op t x y D E;binOp op t D E:Sem Value).run P w= .ok v w∧CR w base Zp h g c v:=by
 unfold eqA at e
 split at e
 ·rename_i τ τs I k
  split at e
  ·rename_i b J;obtain⟨z,rfl,p⟩:=M;obtain⟨B,rfl,q⟩:=N;have a:Qf P t d.eq=true:=by
    rcases T.eq with h |h
    ·rw[k]at h;cases h
    ·exact h
   unfold Qf at a
   split at a
   ·rename_i F n;simp only[ah,cd]at a;have l:P.fieldsOf t=F:=by simp[Program.fieldsOf,n]
    have i:(Op.equalIn 10000 t (.agg z.toArray) (.agg B.toArray)).run P w= .ok b w:=by
     rw[run_equalIn_struct w 9999 t _ _ (by rw[l];exact n) a.1.1,l];exact ET 9998 F.toList 0 d.eq cs I z B b a.2 (by rw[k];exact J) p q (fun j u o=>by simpa using o) (fun j u o=>by simpa using o)
    have K:=run_eqGuard_agg (P:=P) w op t x y z.toArray B.toArray a.1.2;simp only[Sem.run_bind,K,Result.andThen_ok]
    split at e
    ·obtain⟨rfl,rfl,_⟩:=fw e;exact⟨rfl,_,_,rfl,by rw[run_eql_struct,i];rfl,rfl⟩
    ·obtain⟨rfl,rfl,_⟩:=fw e;exact⟨rfl,_,_,rfl,by rw[run_neq_struct,i];rfl,rfl⟩
    ·exact(af e).elim
   ·cases a
  ·exact(af e).elim
 ·exact(af e).elim
theorem Zo{op:BinOp}{t:TypeId}{d:TD}(T:dk P t d){x y:Operand}{ty:Ty}{l:List ty.den}{tk:Tok}{z:A}{k u:Value}(E:AR w base Zp h g (.v false [.sl ty l tk]) k)(F:AR w base Zp h g z u)(e:(acM op d tk z).eval next h L=some (r,h',L')):
  h'=h∧∃c v,r= .v false [c]∧(do eqGuard op t x y k u;binOp op t k u:Sem Value).run P w= .ok v w∧CR w base Zp h g c v:=by
 unfold acM at e
 split at e
 ·rename_i H p;have D:=T.slice p;have o:=F.c;simp only[CR]at o;subst o;have q:=E.c;obtain⟨_,i⟩:=q;have j:∀(a:Option Addr) (n c:Nat),k= .slice a n c→(do eqGuard .eql t x y k (.slice none 0 0);binOp .eql t k (.slice none 0 0):Sem Value).run P w= .ok (.bool a.isNone) w∧(do eqGuard .neq t x y k (.slice none 0 0);binOp .neq t k (.slice none 0 0):Sem Value).run P w= .ok (.bool (!a.isNone)) w:=by
   intro a n c b;subst b;have B:∀op,(eqGuard op t x y (.slice a n c) (.slice none 0 0)).run P w= .ok () w:=fun op=>by cases op<;>simp[eqGuard]
   simp only[Sem.run_bind,B,Result.andThen_ok];have:=Go.run_equal_slice_nil w t H a n c D;constructor<;>simp[binOp,this]
  split at e
  ·obtain⟨a,n,c,b⟩:=i;obtain⟨rfl,rfl,_⟩:=fw e;exact⟨rfl,_,_,rfl,(j _ _ _ b).1,rfl⟩
  ·obtain⟨a,n,c,b⟩:=i;obtain⟨rfl,rfl,_⟩:=fw e;exact⟨rfl,_,_,rfl,(j _ _ _ b).2,rfl⟩
  ·obtain⟨n,c,b⟩:=i;obtain⟨rfl,rfl,_⟩:=fw e;exact⟨rfl,_,_,rfl,(j _ _ _ b).1,rfl⟩
  ·obtain⟨n,c,b⟩:=i;obtain⟨rfl,rfl,_⟩:=fw e;exact⟨rfl,_,_,rfl,(j _ _ _ b).2,rfl⟩
  ·exact(af e).elim
 ·exact(af e).elim
theorem Tp{k:IntKind}:∀(l:List Int) (vs:List Value),bY (PR w Z0 Zp (.int k)) l vs→vs=l.map (aX k)
 |[],vs,h=>h
 |n::l,vs,⟨c,a,e,b,d⟩=>by
  have b:c=[.int k n]:=b;rw[e,b,Tp l a d];rfl
theorem XP{src c i:TypeId}(D:P.underlying src=some (.slice i))(B:P.underlying i=some (.int .u8))(z:P.underlying c=some .string){l:List Int}{v:Value}(J:PR w Z0 Zp (.sl (.int .u8)) l [v]):
  (convert src c v).run P w= .ok (.string ⟨(bytesOf l).toArray⟩) w:=by
 obtain⟨E,d,K,F,M,k,x⟩:=J
 cases F;have k:=Tp l K k;subst k
 cases E with
 |none=>
  have q:l=[]:=by
   cases l with
   |nil=>rfl
   |cons n l=>
    obtain⟨b,t,o,_⟩:=x (by simp)
    cases o
  subst q;rw[run_convert_bytes_string w src c i _ _ _ D B z];simp[Conv.bytesToString,bytesOf];rfl
 |some a=>
  have q:(loadCells a l.length).run P w= .ok (l.map (aX .u8)).toArray w:=by
   have:=run_loadCells_list (P:=P) w a (l.map (aX .u8)) (fun j u p=>by
    obtain⟨b,t,o,I⟩:=x (by intro H;rw[H]at p;simp at p)
    cases o;rw[fi];exact(I j u p).1)
   simpa using this
  have y:=run_bytesToString w a l.length d l q;rw[foldl_push_bytes]at y;refine(run_convert_bytes_string w src c i (some a) l.length d D B z).trans (y.trans ?_);simp[bytesOf,ByteArray.empty,ByteArray.emptyWithCapacity];rfl
end
open Go Go.MapKept
theorem tq:∀τ:Ty,τ.isKey=true→τ.bH=true
 |.bool,_ |.int _,_ |.str,_ |.unit,_=>rfl
 |.sl _,h |.ref _,h |.fn _,h |.cl _ _,h=>by simp[Ty.isKey]at h
 |.pair a b,h=>by
  simp[Ty.isKey]at h;simp[Ty.bH,tq a h.1,tq b h.2]
theorem pd:∀(τ:Ty) (x:τ.den),τ.isKey=true→(τ.vals x).length=τ.size
 |.bool,_,_ |.int _,_,_ |.str,_,_ |.unit,_,_=>rfl
 |.sl _,_,h |.ref _,_,h |.fn _,_,h |.cl _ _,_,h=>by simp[Ty.isKey]at h
 |.pair a b,x,h=>by
  simp[Ty.isKey]at h;simp[Ty.vals,Ty.size,pd a x.1 h.1,pd b x.2 h.2]
theorem EU:∀(τ:Ty) (x y:τ.den),τ.isKey=true→τ.vals x=τ.vals y→x=y
 |.bool,x,y,_,e=>by
  have e:[Value.bool x]=[Value.bool y]:=e
  cases e;rfl
 |.int k,x,y,_,e=>by
  have e:[aX k x]=[aX k y]:=e
  cases e;rfl
 |.str,x,y,_,e=>by
  have e:[Value.string ⟨(show List UInt8 from x).toArray⟩]=[Value.string ⟨(show List UInt8 from y).toArray⟩]:=e;simp only[List.cons.injEq,Value.string.injEq,ByteArray.mk.injEq,and_true]at e;have:=congrArg Array.toList e;exact(show(show List UInt8 from x)=(show List UInt8 from y)by simpa using this)
 |.unit,_,_,_,_=>rfl
 |.sl _,_,_,h,_ |.ref _,_,_,h,_ |.fn _,_,_,h,_ |.cl _ _,_,_,h,_=>by simp[Ty.isKey]at h
 |.pair a b,x,y,h,e=>by
  simp[Ty.isKey]at h;have e:a.vals x.1++b.vals x.2=a.vals y.1++b.vals y.2:=e;have i:(a.vals x.1).length=(a.vals y.1).length:=by rw[pd a _ h.1,pd a _ h.1]
  obtain⟨c,d⟩:=List.append_inj e i;exact Prod.ext (EU a _ _ h.1 c) (EU b _ _ h.2 d)
theorem fO:∀(τ:Ty) (x y:τ.den),τ.isKey=true→(τ.kP x y=true↔x=y)
 |.bool,x,y,_=>by
  show((show Bool from x)==(show Bool from y))=true↔_;exact beq_iff_eq
 |.int k,x,y,_=>by
  show((show Int from x)==(show Int from y))=true↔_;exact beq_iff_eq
 |.str,x,y,_=>by
  show((show List UInt8 from x)==(show List UInt8 from y))=true↔_;exact beq_iff_eq
 |.unit,_,_,_=>⟨fun _=>rfl,fun _=>rfl⟩
 |.sl _,_,_,h |.ref _,_,_,h |.fn _,_,_,h |.cl _ _,_,_,h=>by simp[Ty.isKey]at h
 |.pair a b,x,y,h=>by
  simp[Ty.isKey]at h;simp only[Ty.kP,ah,fO a _ _ h.1,fO b _ _ h.2];exact⟨fun⟨c,d⟩=>Prod.ext c d,fun e=>by rw[e];exact⟨rfl,rfl⟩⟩
theorem FV.inj{τ:Ty}{x y:τ.den}{v:Value}(j:τ.isKey=true)(i:FV τ x v)(a:FV τ y v):x=y:=by
 unfold FV at i a
 split at i<;>rename_i p<;>rw[p]at a<;>simp only at a
 ·rw[i]at a;simp only[Value.agg.injEq]at a;have:=congrArg Array.toList a;exact EU τ x y j (by simpa using this)
 ·exact EU τ x y j (i.trans a.symm)
theorem FV.same{τ:Ty}{x:τ.den}{v u:Value}(i:FV τ x v)(a:FV τ x u):v=u:=by
 unfold FV at i a
 split at i<;>rename_i j<;>rw[j]at a<;>simp only at a
 ·rw[i,a]
 ·rw[i]at a;cases a;rfl
section
variable {P:Program} {w0:W0} {w w':World} {Z0 Zp:bj} {h h':aP} {g:G} {new next base:Nat} {r:A} {L L':Log} {X:Cx}
theorem Qk{τ:Ty}(b:τ.isKey=true){i:Bool}{cs:List C}{x:τ.den}{v:Value}(a:i=τ.isAgg)(c:VR w base Zp h g i cs v)(k:τ.cf cs=some x):FV τ x v:=by
 unfold FV
 cases j:τ.isAgg with
 |true=>
  rw[a,j]at c;obtain⟨l,rfl,d⟩:=c;have:=(PR.vals τ x l b).1 (da (tq τ b) d k);rw[this]
 |false=>
  rw[a,j]at c;have d:cw w base Zp h g cs [v]:=c;exact((PR.vals τ x [v] b).1 (da (tq τ b) d k)).symm
theorem aeU{τ:Ty}(d:τ.isKey=true){x:τ.den}{v:Value}(a:FV τ x v):VR w base Zp h g τ.isAgg (τ.cells x) v:=by
 have b:cw w base Zp h g (τ.cells x) (τ.vals x):=cw.nQ τ x _ ((PR.vals τ x _ d).2 rfl);unfold FV at a
 cases c:τ.isAgg with
 |true=>rw[c]at a;exact⟨_,a,b⟩
 |false=>
  rw[c]at a;have a:τ.vals x=[v]:=a;rw[a]at b;exact b
theorem DF:∀τ:Ty,τ.isKey=true→τ.g7=τ.vals τ.zero
 |.bool,_ |.int _,_ |.str,_ |.unit,_=>rfl
 |.sl _,h |.ref _,h |.fn _,h |.cl _ _,h=>by simp[Ty.isKey]at h
 |.pair a b,h=>by
  simp[Ty.isKey]at h;show a.g7++b.g7=a.vals a.zero++b.vals b.zero;rw[DF a h.1,DF b h.2]
theorem aa8{t:TypeId}{d:TD}(T:dk P t d){τ:Ty}(p:d.zero=true)(l:d.ty=some τ)(o:τ.isKey=true):∃z,(zeroValue t).run P w= .ok z w∧FV τ τ.zero z:=by
 obtain⟨i,z,n,_,_,j,a,c⟩:=T.zeroV p l;refine⟨z,by simp[zeroValue,typeInfo,n,j],?_⟩;have b:=(T.Ht l).2.1;rw[DF τ o]at a;unfold FV
 cases k:τ.isAgg with
 |true=>
  rw[←b,k]at c
  cases z<;>simp[O1]at c;simp only[Value.cells]at a;show Value.agg _= .agg _;rw[←a]
 |false=>
  rw[←b,k]at c;show τ.vals τ.zero=[z];rw[←a]
  cases z<;>simp[O1]at c<;>rfl
def Found(a:List MapEntry)(kv:Value)(r:Option (Nat×Value)):Prop:=
 (r=none∧∀e∈a,e.key≠kv)∨∃j e,r=some (j,e.val)∧a[j]? =some e∧e.key=kv
theorem EV{tk:TypeId}{kv:Value}:∀(c:List MapEntry) (i:Nat),(∀e∈c,∃b,(Op.equal tk kv e.key).run P w= .ok b w∧(b=true↔e.key=kv))→
  ∃r,(Instr.findAsking tk kv c i).run P w= .ok r w∧((r=none∧∀e∈c,e.key≠kv)∨∃j e,r=some (i+j,e.val)∧c[j]? =some e∧e.key=kv)
 |[],i,_=>⟨none,rfl,.inl ⟨rfl,fun e h=>by cases h⟩⟩
 |e::c,i,H=>by
  obtain⟨b,k,l⟩:=H e cC;obtain⟨r,p,t⟩:=EV c (i+1) fun e x=>H e (bK _ x)
  cases b with
  |true=>
   exact⟨_,by simp only[Instr.findAsking,Sem.run_bind,k,Result.andThen_ok,if_true];rfl,.inr ⟨0,e,rfl,rfl,l.1 rfl⟩⟩
  |false=>
   refine⟨r,by simp only[Instr.findAsking,Sem.run_bind,k,Result.andThen_ok];simpa using p,?_⟩;rcases t with⟨rfl,d⟩|⟨j,n,rfl,d,u⟩
   ·refine .inl ⟨rfl,fun o a=> ?_⟩;rcases List.mem_cons.1 a with rfl |a
    ·exact fun q=>by have:=l.2 q;cases this
    ·exact d o a
   ·exact .inr ⟨j+1,n,by rw[show i+(j+1)=i+1+j by omega],by simpa using d,u⟩
def Ty.ints(k:IntKind):(τ:Ty)→τ.den→List Int
 |.int _,n=>[n]
 |.pair a b,x=>a.ints k x.1++b.ints k x.2
 |_,_=>[]
theorem vK{k:IntKind}:∀(τ:Ty) (x:τ.den),τ.Ho k=true→τ.isKey=true∧τ.vals x=(τ.ints k x).map (aX k)
 |.int q,x,c=>by
  simp only[Ty.Ho]at c
  split at c
  ·rename_i e _;subst e;exact⟨rfl,rfl⟩
  ·cases c
 |.unit,_,_=>⟨rfl,rfl⟩
 |.pair a b,x,c=>by
  simp only[Ty.Ho,ah]at c;obtain⟨d,i⟩:=vK a x.1 c.1;obtain⟨j,l⟩:=vK b x.2 c.2;refine⟨by simp[Ty.isKey,d,j],?_⟩;show a.vals x.1++b.vals x.2=(a.ints k x.1++b.ints k x.2).map _;rw[i,l,acl]
 |.bool,_,c |.str,_,c |.sl _,_,c |.ref _,_,c |.fn _,_,c |.cl _ _,_,c=>by cases c
theorem MH{k:IntKind}{e:TypeId}(o:P.underlying e=some (.int k))(d:Nat)(a b:List Int)(y:a.length=b.length):∀n:List Nat,(∀i∈n,i<a.length)→
  ∃r,(Op.eqItems (d+1) e 1 (a.map (aX k)).toArray (b.map (aX k)).toArray n).run P w= .ok r w∧(r=true↔∀i∈n,a[i]? =b[i]?)
 |[],_=>⟨true,rfl,by simp⟩
 |i::n,q=>by
  obtain⟨r,u,x⟩:=MH o d a b y n fun j l=>q j (bK _ l);have p:=q i cC;have t:P.plainKey e=true:=by simp[Program.plainKey,o]
  have B:(a.map (aX k)).toArray[i*1]? =some (.int k a[i]):=by simp[p]
  have D:(b.map (aX k)).toArray[i*1]? =some (.int k (b[i]'(by omega))):=by simp[show i<b.length by omega]
  have z:=run_equalIn_int (P:=P) w d e k k a[i] (b[i]'(by omega)) o;simp only[Op.eqItems,Sem.run_bind,run_part_plain w t B,run_part_plain w t D,z,Result.andThen_ok]
  by_cases c:a[i]=b[i]'(by omega)
  ·refine⟨r,by simp[c,u],?_⟩;rw[x];refine⟨fun H j l=> ?_,fun H j l=>H j (bK _ l)⟩;rcases List.mem_cons.1 l with rfl |l
   ·simp[p,show j<b.length by omega,c]
   ·exact H j l
  ·refine⟨false,by simp[c],?_⟩;simp only[Bool.false_eq_true,false_iff];intro H;have:=H i cC;simp[p,show i<b.length by omega]at this;exact c this
theorem Tq{k:IntKind}{tk e:TypeId}{n:Nat}{i:TypeInfo}(u:P.underlying tk=some (.array n e))(p:P.underlying e=some (.int k))(c:P.info? e=some i)(t:i.size=1){a b:List Int}(x:a.length=n)(y:b.length=n):
  ∃r,(Op.equal tk (.agg (a.map (aX k)).toArray) (.agg (b.map (aX k)).toArray)).run P w= .ok r w∧(r=true↔b=a):=by
 have o:P.cellsOf e=1:=by simp[Program.cellsOf,c,t]
 obtain⟨r,d,l⟩:=MH (w:=w) p 9998 a b (by omega) (abY n) fun i c=>by simp at c;omega
 refine⟨r,?_,?_⟩
 ·show(Op.equalIn (9999+1) tk _ _).run P w=_;rw[run_equalIn_array w 9999 _ _ u c,o];exact d
 ·rw[l];refine⟨fun H=> ?_,fun e i _=>by rw[e]⟩;apply List.ext_getElem?;intro j
  by_cases q:j<n
  ·exact(H j (by simpa using q)).symm
  ·rw[bv (by omega),bv (by omega)]
theorem Tr{k:IntKind}{tk e:TypeId}{n:Nat}{i:TypeInfo}(x:P.underlying tk=some (.array n e))(l:P.underlying e=some (.int k))(o:P.info? e=some i)(u:i.size=1){a:List Int}(D:a.length=n)(em:Bool):
  (Instr.checkKey em 10000 tk (.agg (a.map (aX k)).toArray)).run P w= .ok () w:=by
 have t:P.plainKey e=true:=by simp[Program.plainKey,l]
 obtain⟨m,q⟩:∃m,(10000:Nat)=m+1+1:=⟨9998,rfl⟩;rw[q,Instr.checkKey];simp only[Sem.run_bind,run_underlying x,Result.andThen_ok];simp only[Std.Legacy.Range.forIn_eq_forIn_range',Std.Legacy.Range.size,Nat.sub_zero,Nat.add_one_sub_one,Nat.div_one];have d:∀c:List Nat,(∀j∈c,j<a.length)→Sem.run P (forIn c PUnit.unit fun i (_:PUnit)=>do
   Instr.checkKey em (m+1) e (←part e (a.map (aX k)).toArray (i*(←sizeOf e)))
   pure (ForInStep.yield PUnit.unit)) w= .ok PUnit.unit w:=by
  intro c
  induction c with
  |nil=>intro _;rfl
  |cons j c B=>
   intro H;have b:=H j cC;have y:(a.map (aX k)).toArray[j*1]? =some (.int k a[j]):=by simp[b]
   have z:(sizeOf e).run P w= .ok 1 w:=by simp[Go.sizeOf,typeInfo,o,u]
   have p:(Instr.checkKey em (m+1) e (.int k a[j])).run P w= .ok () w:=by
    simp only[Instr.checkKey,Sem.run_bind,run_underlying l,Result.andThen_ok];rfl
   rw[List.forIn_cons];simp only[Sem.run_bind,z,Result.andThen_ok];rw[run_part_plain w t y];simp only[Result.andThen_ok];rw[p];simp only[Result.andThen_ok,Sem.run_pure];exact B fun j b=>H j (bK _ b)
 rw[d (List.range' 0 n) fun j b=>by simp at b;omega];rfl
theorem w6(hX:EA P X.tt){tk:TypeId}{k:Ty}(o:EK X tk=some k):k.isKey=true∧∀(x:k.den) (kv:Value),FV k x kv→
  (∀em,(Instr.checkKey em 10000 tk kv).run P w= .ok () w)∧(Instr.keyThatStays kv kv).run P w= .ok kv w∧
  ∀z:List MapEntry,(∀e∈z,∃y,FV k y e.key)→∃r,(Instr.findKey tk kv z).run P w= .ok r w∧Found z kv r:=by
 unfold EK at o
 split at o
 ·rename_i d hd;have T:=hX.get hd
  split at o
  ·rename_i K q D R
   split at o
   ·rename_i e _;subst e
    cases o;have F:=T.int D;refine⟨rfl,fun x kv c=> ?_⟩;have c:kv= .int K x:=by
     have c:[aX K x]=[kv]:=c
     cases c;rfl
    subst c;have p:IsKey (.int K) (.int K x):=by simp[IsKey]
    refine⟨fun em=>run_checkKey F p em 9999,run_keyThatStays p,fun z E=> ?_⟩;have I:∀e∈z,IsKey (.int K) e.key:=by
     intro e N;obtain⟨y,u⟩:=E e N;have u:[aX K y]=[e.key]:=u;simp only[List.cons.injEq,and_true]at u;rw[←u];simp[IsKey]
    rcases findNow_spec p z 0 I with⟨t,B⟩|⟨j,e,t,B,M⟩
    ·exact⟨none,run_findKey F t,.inl ⟨rfl,B⟩⟩
    ·rw[b9]at t;exact⟨_,run_findKey F t,.inr ⟨j,e,rfl,B,M⟩⟩
   ·cases o
  ·rename_i D R
   cases o;have F:=T.string D;refine⟨rfl,fun x kv c=> ?_⟩;have c:kv= .string ⟨(show List UInt8 from x).toArray⟩:=by
    have c:[Value.string ⟨(show List UInt8 from x).toArray⟩]=[kv]:=c
    cases c;rfl
   subst c;have p:IsKey .string (.string ⟨(show List UInt8 from x).toArray⟩):=by simp[IsKey]
   refine⟨fun em=>run_checkKey F p em 9999,run_keyThatStays p,fun z E=> ?_⟩;have I:∀e∈z,IsKey .string e.key:=by
    intro e N;obtain⟨y,u⟩:=E e N;have u:[Value.string ⟨(show List UInt8 from y).toArray⟩]=[e.key]:=u;simp only[List.cons.injEq,and_true]at u;rw[←u];simp[IsKey]
   rcases findNow_spec p z 0 I with⟨t,B⟩|⟨j,e,t,B,M⟩
   ·exact⟨none,run_findKey F t,.inl ⟨rfl,B⟩⟩
   ·rw[b9]at t;exact⟨_,run_findKey F t,.inr ⟨j,e,rfl,B,M⟩⟩
  ·rename_i n e τ D R
   split at o
   ·rename_i de Z;have Te:=hX.get Z
    split at o
    ·rename_i q hdq
     split at o
     ·rename_i hc;simp only[ah]at hc;obtain⟨⟨⟨t,B⟩,M⟩,W⟩:=hc;have t:=aj t;have B:=aj B
      cases o;have F:=T.array D;have S:=Te.int hdq;obtain⟨i,hi,Q,_⟩:=Te.inf;have J:∀x:k.den,(k.ints q x).length=n:=by
       intro x;obtain⟨g1,H⟩:=vK (k:=q) k x W;have:=pd k x g1;rw[H]at this;simpa[B]using this
      have O:∀(x:k.den) (v:Value),FV k x v→v= .agg ((k.ints q x).map (aX q)).toArray:=by
       intro x v c;unfold FV at c;rw[M]at c;have c:v= .agg (k.vals x).toArray:=c;rw[c,(vK (k:=q) k x W).2]
      refine⟨(vK (k:=q) k k.zero W).1,fun x kv c=> ?_⟩;have hkv:=O x kv c;subst hkv;refine⟨fun em=>Tr F S hi (Q.trans t) (J x) em,?_,fun z E=> ?_⟩
      ·have hsb:∀n (l:List Int),((l.map (aX q)).zip (l.map (aX q))).all (fun(x,y)=>Instr.sameBits n x y)=true:=by
        intro n l
        induction l with
        |nil=>rfl
        |cons a l ih=>
         simp only[bo,List.zip_cons_cons,List.all_cons,ih,Bool.and_true];simp[Instr.sameBits]
       have:Instr.sameBits 10000 (.agg ((k.ints q x).map (aX q)).toArray) (.agg ((k.ints q x).map (aX q)).toArray)=true:=by
        rw[show(10000:Nat)=9999+1 from rfl,Instr.sameBits];simpa using hsb 9999 (k.ints q x)
       simp[Instr.keyThatStays,this]
      ·have hw2:(match P.underlying tk with |some (.array _ _)|some (.struct _)=>true |_=>false)=true:=by rw[F]
       rw[run_findKey_eq w hw2];obtain⟨r,g1,H⟩:=EV (P:=P) (w:=w) (tk:=tk) (kv:=.agg ((k.ints q x).map (aX q)).toArray) z 0 (by
        intro e N;obtain⟨y,u⟩:=E e N;have u:=O y _ u;obtain⟨b,U,V⟩:=Tq (w:=w) F S hi (Q.trans t) (J x) (J y);refine⟨b,by rw[u];exact U,?_⟩;rw[V,u];constructor
        ·intro e;rw[e]
        ·intro e;simp only[Value.agg.injEq]at e;have:=congrArg Array.toList e;simp only at this;exact(List.map_inj_right (fun a b Y=>by cases Y;rfl)).1 this)
       refine⟨r,g1,?_⟩;rcases H with H |⟨j,e,H,U,V⟩
       ·exact .inl H
       ·rw[b9]at H;exact .inr ⟨j,e,H,U,V⟩
     ·cases o
    ·cases o
   ·cases o
  ·cases o
 ·cases o
theorem Ql{k v:Ty}(b:k.isKey=true){x:k.den}:∀l:List (k.den×v.den),(∀p∈l,p.1≠x)→qJ k.kP l x=none
 |[],_=>rfl
 |p::l,a=>by
  have c:k.kP x p.1=false:=by
   cases d:k.kP x p.1 with
   |false=>rfl
   |true=>exact absurd ((fO k _ _ b).1 d).symm (a p cC)
  simp only[qJ,c];exact Ql b l fun q i=>a q (bK _ i)
theorem Qm{k v:Ty}(b:k.isKey=true){x:k.den}{y:v.den}:∀(l:List (k.den×v.den)) (j:Nat),(l.map (·.1)).Nodup→l[j]? =some (x,y)→qJ k.kP l x=some y
 |[],j,_,a=>by simp at a
 |p::l,0,_,a=>by
  simp at a;subst a;simp only[qJ,(fO k x x b).2 rfl]
 |p::l,j+1,c,a=>by
  have a:l[j]? =some (x,y):=by simpa using a
  simp only[bo,List.nodup_cons]at c;have d:k.kP x p.1=false:=by
   cases i:k.kP x p.1 with
   |false=>rfl
   |true=>
    exfalso;apply c.1;rw[←(fO k _ _ b).1 i];exact List.mem_map.2 ⟨(x,y),bW a,rfl⟩
  simp only[qJ,d];exact Qm b l j c.2 a
theorem BH{k v:Ty}(b:k.isKey=true){x:k.den}{z:v.den}:∀l:List (k.den×v.den),(∀p∈l,p.1≠x)→oV k.kP l x z=l++[(x,z)]
 |[],_=>rfl
 |p::l,a=>by
  have c:k.kP x p.1=false:=by
   cases d:k.kP x p.1 with
   |false=>rfl
   |true=>exact absurd ((fO k _ _ b).1 d).symm (a p cC)
  simp only[oV,c,cK];rw[BH b l fun q i=>a q (bK _ i)]
theorem Qn{k v:Ty}(b:k.isKey=true){x:k.den}{y z:v.den}:∀(l:List (k.den×v.den)) (j:Nat),(l.map (·.1)).Nodup→l[j]? =some (x,y)→oV k.kP l x z=l.set j (x,z)
 |[],j,_,a=>by simp at a
 |p::l,0,_,a=>by
  simp at a;subst a;simp only[oV,(fO k x x b).2 rfl,List.set_cons_zero]
 |p::l,j+1,c,a=>by
  have a:l[j]? =some (x,y):=by simpa using a
  simp only[bo,List.nodup_cons]at c;have d:k.kP x p.1=false:=by
   cases i:k.kP x p.1 with
   |false=>rfl
   |true=>
    exfalso;apply c.1;rw[←(fO k _ _ b).1 i];exact List.mem_map.2 ⟨(x,y),bW a,rfl⟩
  simp only[oV,d,List.set_cons_succ];rw[Qn b l j c.2 a]
theorem Xz.keys{k v:Ty}{l:List (k.den×v.den)}{es:List MapEntry}(h:Xz k v l es):∀e∈es,∃y,FV k y e.key:=by
 intro e i;obtain⟨j,a⟩:=List.mem_iff_getElem?.1 i;obtain⟨p,x⟩:∃p,l[j]? =some p:=by
  have:j<es.length:=(List.getElem?_eq_some_iff.1 a).1;exact⟨_,ai (by rw[h.1];exact this)⟩
 exact⟨p.1,(h.2 j p e x a).1⟩
theorem MI{k v:Ty}{l:List (k.den×v.den)}{b:List MapEntry}(h:Xz k v l b){x:k.den}{kv:Value}(o:FV k x kv)(i:∀e∈b,e.key≠kv):∀p∈l,p.1≠x:=by
 intro p n e;obtain⟨j,d⟩:=List.mem_iff_getElem?.1 n;have c:j<l.length:=(List.getElem?_eq_some_iff.1 d).1;have a:b[j]? =some (b[j]'(by rw[←h.1];exact c)):=ai _
 have:=(h.2 j p _ d a).1;rw[e]at this;exact i _ (bW a) (this.same o)
theorem MJ{k v:Ty}(p:k.isKey=true){l:List (k.den×v.den)}{b:List MapEntry}(h:Xz k v l b){x:k.den}{kv:Value}(q:FV k x kv){j:Nat}{e:MapEntry}(i:b[j]? =some e)(o:e.key=kv):∃y,l[j]? =some (x,y)∧FV v y e.val:=by
 have c:j<b.length:=(List.getElem?_eq_some_iff.1 i).1;have a:l[j]? =some (l[j]'(by rw[h.1];exact c)):=ai _
 obtain⟨d,n⟩:=h.2 j _ _ a i;rw[o]at d;have:=d.inj p q;exact⟨_,by rw[a,←this],n⟩
theorem DG{k v b c:Ty}{l:List (k.den×v.den)}{m:List (b.den×c.den)}(a:wV k v b c l=some m):∃(h:k=b) (h':v=c),m=h▸h'▸l:=by
 unfold wV at a
 split at a
 ·rename_i h h' _ _
  cases a;exact⟨h,h',rfl⟩
 ·cases a
theorem zU(b:EA P X.tt){tk a:TypeId}{k v:Ty}(hm:zH X tk a=some (k,v)):EK X tk=some k∧v.isKey=true∧∃d,dk P a d∧d.zero=true∧d.ty=some v:=by
 unfold zH at hm
 split at hm
 ·rename_i q d j c
  split at hm
  ·rename_i u n l
   split at hm
   ·rename_i i
    cases hm;exact⟨j,i,d,b.get c,n,l⟩
   ·cases hm
  ·cases hm
 ·cases hm
theorem dk.map{t:TypeId}{d:TD}(T:dk P t d){tk i:TypeId}(hd:d.desc= .map tk i):P.underlying t=some (.map tk i):=by
 obtain⟨y,j,a⟩:=T.under;rw[hd]at a
 cases y<;>simp[ry]at a;rw[j,a.1,a.2]
theorem Ts(d:EA P X.tt)(R:HR w0 Z0 Zp h g w)(i:¬ g.al new){t tk y:TypeId}{k v:Ty}(hm:zH X tk y=some (k,v)):
  bl P w0 Z0 Zp h g w new (do pure (.value (←Instr.makeMap t none))) (.v false [.mp new]) ((new,.map k v [])::h):=by
 obtain⟨l,n,_⟩:=zU d hm;have u:=(w6 (P:=P) (w:=w) d l).1;have c:(w.alloc (.map #[] 0)).heap=w.heap.push (.map #[] 0):=rfl;have a:(w.alloc (.map #[] 0)).heap[w.heap.size]? =some (.map #[] 0):=by rw[c];simp
 have b:=Le.alloc R i (.map k v []) 0 c;refine⟨_,.map (some w.heap.size),_,_,?_,.inl rfl,R.alloc i (.map k v []) 0 c (R.ext.alloc _) ⟨u,n,by simp,w.heap.size,#[],0,n3 _ _ _ _,a,rfl,fun j p e q=>by simp at q⟩ (fun _=>rfl),b,AR.jU ⟨.inr rfl,⟨_,rfl⟩,fun _=>⟨_,n3 _ _ _ _,rfl⟩⟩,fun o x=>x⟩;simp[Instr.makeMap,newObj,Sem.run]
theorem VM(hX:EA P X.tt)(R:HR w0 Z0 Zp h g w){t tk tv:TypeId}{d:TD}(T:dk P t d)(hd:d.desc= .map tk tv){k v:Ty}(hm:zH X tk tv=some (k,v)){x ix:A}{vx E:Value}(hx:AR w w0.heap.size Zp h g x vx)(hi:AR w w0.heap.size Zp h g ix E){ok:Bool}
  (e:(Ri k v x ix ok).eval next h L=some (r,h',L')):h'=h∧∃u,(Instr.lookup t vx E ok).run P w= .ok u w∧AR w w0.heap.size Zp h g r u:=by
 obtain⟨h1,h2,dv,Tv,hz,hty⟩:=zU hX hm;have W:=w6 (P:=P) (w:=w) hX h1;have hu:=T.map hd;unfold Ri at e
 split at e
 ·rename_i o gg cs
  split at e
  ·rename_i y U hy;have e:=bq e
   split at e
   ·rename_i k' v' l ho
    split at e
    ·rename_i N hc;obtain⟨V,hv',Y⟩:=DG hc;subst V hv';have Y:N=l:=Y;subst Y;obtain⟨Rp,_,hp⟩:=hx.c;obtain⟨b,hb,rfl⟩:=hp (by rw[ho];simp);have K:=R.ob o;rw[ho]at K;obtain⟨g1,g2,Z,b',es,Q,I,S,B⟩:=K;rw[hb]at I;cases I;have p:FV k' y E:=Qk g1 (by simpa using U) hi hy;obtain⟨c1,_,c3⟩:=W.2 y E p;obtain⟨D,c4,F⟩:=c3 es.toList B.keys;obtain⟨z,hz1,hz2⟩:=aa8 (w:=w) Tv hz hty g2;have n:∀(i:Value) (O:Bool),((D.map (fun u=>(u.2,true))).getD (z,false)=(i,O))→(Instr.lookup t (.map (some b)) E ok).run P w= .ok (if ok then .tuple #[i,.bool O]else i) w:=by
      intro i O a;simp only[Instr.lookup,Sem.run_bind,run_underlying hu,Result.andThen_ok,MapKept.run_getObj_map S,Sem.run_pure,c1,c4]
      cases D with
      |none=>simp at a;obtain⟨rfl,rfl⟩:=a;simp[hz1]
      |some q=>obtain⟨q1,q2⟩:=q;simp at a;obtain⟨rfl,rfl⟩:=a;simp
     have H:∀(i:Value) (q:Option v'.den),qJ k'.kP N y=q→((D.map (fun u=>(u.2,true))).getD (z,false)=(i,q.isSome))→FV v' (q.getD v'.zero) i→
       h'=h∧∃u,(Instr.lookup t (.map (some b)) E ok).run P w= .ok u w∧AR w w0.heap.size Zp h g r u:=by
      intro i q hq J a;rw[hq]at e;have M:=aeU (w:=w) (base:=w0.heap.size) (Zp:=Zp) (h:=h) (g:=g) g2 a
      cases ok with
      |true=>
       cases dg e;refine⟨rfl,_,n _ _ J,?_⟩;exact⟨[i,.bool q.isSome],rfl,[i],[.bool q.isSome],rfl,⟨i,rfl,M⟩,[.bool q.isSome],[],rfl,⟨_,rfl,⟨_,[],rfl,rfl,rfl⟩⟩,rfl⟩
      |false=>
       cases dg e;exact⟨rfl,_,n _ _ J,M⟩
     rcases F with⟨rfl,F⟩|⟨j,en,rfl,F,c6⟩
     ·exact H z none (Ql g1 N (MI B p F)) rfl hz2
     ·obtain⟨yy,c7,c8⟩:=MJ g1 B p F c6;exact H en.val (some yy) (Qm g1 N j Z c7) rfl c8
    ·exact(af e).elim
   ·exact(af e).elim
  ·exact(af e).elim
 ·exact(af e).elim
theorem VN(hX:EA P X.tt)(R:HR w0 Z0 Zp h g w){t tk tv:TypeId}{d:TD}(T:dk P t d)(hd:d.desc= .map tk tv){k v:Ty}(hm:zH X tk tv=some (k,v)){x ix a:A}{vx N U:Value}(hx:AR w w0.heap.size Zp h g x vx)(hi:AR w w0.heap.size Zp h g ix N)(ha:AR w w0.heap.size Zp h g a U)
  (e:(Rj k v x ix a).eval next h L=some (r,h',L')):bl P w0 Z0 Zp h g w new (do Instr.mapUpdate t vx N U;pure .skip) r h':=by
 obtain⟨h1,h2,_⟩:=zU hX hm;have hkk:=w6 (P:=P) (w:=w) hX h1;have hu:=T.map hd;unfold Rj at e
 split at e
 ·rename_i o gg cs gg' ds
  split at e
  ·rename_i y z O hy hz;have e:=bq e
   split at e
   ·rename_i M W l ho
    split at e
    ·rename_i I hc;obtain⟨hk',hv',hl⟩:=DG hc;subst hk' hv';have hl:I=l:=hl;subst hl;simp only[ah,beq_iff_eq]at O;have e:=cn e
     cases dg e;obtain⟨Rp,_,B⟩:=hx.c;obtain⟨b,hb,rfl⟩:=B (by rw[ho];simp);have XI:=R.ob o;rw[ho]at XI;obtain⟨g1,g2,S,b',es,D,hb',J,u⟩:=XI;rw[hb]at hb';cases hb';have K:FV M y N:=Qk g1 O.1 hi hy;have hfz:FV W z U:=Qk g2 O.2 ha hz;obtain⟨c1,c2,c3⟩:=hkk.2 y N K;obtain⟨res,c4,V⟩:=c3 es.toList u.keys;have hbb:=R.home o b (by rw[ho];simp) hb;have Z:∀(E:Array MapEntry) (n:Nat),(Instr.mapUpdate t (.map (some b)) N U).run P w= .ok () { w with heap:=w.heap.setIfInBounds b (.map E n) }→Xz M W (oV M.kP I y z) E.toList→((oV M.kP I y z).map (·.1)).Nodup→
       bl P w0 Z0 Zp h g w new (do Instr.mapUpdate t (.map (some b)) N U;pure .skip) nP ((o,.map M W (oV M.kP I y z))::h):=by
      intro E n hrun ahs aht;have hs:=heap_set (o':=Obj.map E n) J;obtain⟨W1,W2⟩:=R.write (x:=.map M W (oV M.kP I y z)) (w':={ w with heap:=w.heap.setIfInBounds b (.map E n) }) hb (by rw[ho];rfl) (by rw[ho];exact .inr (.inr (.inr (.inr (.inl ⟨_,_,_,_,rfl,rfl⟩))))) rfl
       (fun c hc=>hs.2 c hc) (by simp) (n4 R.ext rfl rfl rfl (by simp) (fun i hi _=>hs.2 i (by omega)))
       (fun _=>⟨g1,g2,aht,b,E,n,hb,hs.1,ahs⟩)
      exact⟨.skip,undef,_,g,by simp[hrun],.inr ⟨rfl,rfl⟩,W1,W2,AR.skip,fun _ hh=> .inl hh⟩
     rcases V with⟨rfl,V⟩|⟨j,en,rfl,V,c6⟩
     ·have hno:=MI u K V;have W7:=BH (v:=W) (z:=z) g1 I hno;refine Z (es.push { key:=N,val:=U,born:=D }) (D+1) ?_ ?_ ?_
      ·simp only[Instr.mapUpdate,Sem.run_bind,run_underlying hu,Result.andThen_ok,MapKept.run_getObj_map J,c1,c4];exact MapKept.run_setObj_map _ J
      ·rw[W7,Array.toList_push];refine⟨by simp[u.1],fun i p en B F=> ?_⟩
       by_cases hi:i<I.length
       ·rw[aU hi]at B;rw[aU (by rw[←u.1];exact hi)]at F;exact u.2 i p en B F
       ·rw[bc (by omega)]at B;rw[bc (by rw[←u.1];omega),←u.1]at F;obtain⟨q,hq⟩:∃q,q=i -I.length:=⟨_,rfl⟩;rw[←hq]at B F
        match q,B,F with
        |0,B,F=>
         simp at B F;subst B F;exact⟨K,hfz⟩
        |q+1,B,_=>simp at B
      ·rw[W7,acl,List.nodup_append];refine⟨S,by simp,fun q hq q' hq'=> ?_⟩;simp at hq';subst hq';obtain⟨p,B,rfl⟩:=List.mem_map.1 hq;exact hno p B
     ·obtain⟨yy,c7,c8⟩:=MJ g1 u K V c6;have hps:=Qn (v:=W) (z:=z) g1 I j S c7;have Y:es[j]? =some en:=by simpa using V
      refine Z (es.modify j fun e=>{ e with key:=N,val:=U }) D ?_ ?_ ?_
      ·simp only[Instr.mapUpdate,Sem.run_bind,run_underlying hu,Result.andThen_ok,MapKept.run_getObj_map J,c1,c4,Y,Option.map_some,Option.getD_some,c6,c2];exact MapKept.run_setObj_map _ J
      ·rw[hps];refine⟨by simp[u.1],fun i p en' B F=> ?_⟩;have Q:j<I.length:=(List.getElem?_eq_some_iff.1 c7).1
       by_cases H:j=i
       ·subst H;rw[cB Q]at B;simp only[aD,Array.getElem?_modify,if_true,Y,Option.map_some,Option.some.injEq]at F
        cases B;subst F;exact⟨K,hfz⟩
       ·rw[cA H]at B;simp only[aD,Array.getElem?_modify,if_neg H]at F;exact u.2 i p en' B (by simpa using F)
      ·rw[hps,List.map_set];have:(I.map (·.1)).set j y=I.map (·.1):=by
        apply List.ext_getElem?;intro i
        by_cases H:j=i
        ·subst H;have Q:j<(I.map (·.1)).length:=by simpa using(List.getElem?_eq_some_iff.1 c7).1
         rw[cB Q,List.getElem?_map,c7];rfl
        ·rw[cA H]
       rw[this];exact S
    ·exact(af e).elim
   ·exact(af e).elim
  ·exact(af e).elim
 ·exact(af e).elim
end
variable {P:Program} {w0:W0} {w w':World} {Z0 Zp:bj} {h h':aP} {g:G} {new next base:Nat} {r:A} {L L':Log} {X:Cx}
theorem aa9{t:TypeId}{V:VT}(T:Hu P t V):∃z,(zeroValue t).run P w= .ok z w∧VR w base Zp h g V.isAgg (V.cells V.zero) z:=by
 obtain⟨i,z,j,_,k,c,a⟩:=T.inf;refine⟨z,by simp[zeroValue,typeInfo,j,k],?_⟩;have b:cw w base Zp h g (V.cells V.zero) V.g7:=VT.zR V T.nf;rw[←c]at b
 cases d:V.isAgg with
 |true=>
  rw[d]at a
  cases z<;>simp[O1]at a;rename_i l;exact⟨l.toList,by simp,b⟩
 |false=>
  rw[d]at a
  cases z<;>simp[O1]at a<;>exact b
theorem MK{β:Type}{k:Ty}(b:k.isKey=true){x:k.den}:∀l:List (k.den×β),(∀p∈l,p.1≠x)→qJ k.kP l x=none
 |[],_=>rfl
 |p::l,a=>by
  have c:k.kP x p.1=false:=by
   cases d:k.kP x p.1 with
   |false=>rfl
   |true=>exact absurd ((fO k _ _ b).1 d).symm (a p cC)
  simp only[qJ,c];exact MK b l fun q i=>a q (bK _ i)
theorem ML{β:Type}{k:Ty}(b:k.isKey=true){x:k.den}{y:β}:∀(l:List (k.den×β)) (j:Nat),(l.map (·.1)).Nodup→l[j]? =some (x,y)→qJ k.kP l x=some y
 |[],j,_,a=>by simp at a
 |p::l,0,_,a=>by
  simp at a;subst a;simp only[qJ,(fO k x x b).2 rfl]
 |p::l,j+1,c,a=>by
  have a:l[j]? =some (x,y):=by simpa using a
  simp only[bo,List.nodup_cons]at c;have d:k.kP x p.1=false:=by
   cases i:k.kP x p.1 with
   |false=>rfl
   |true=>
    exfalso;apply c.1;rw[←(fO k _ _ b).1 i];exact List.mem_map.2 ⟨(x,y),bW a,rfl⟩
  simp only[qJ,d];exact ML b l j c.2 a
theorem Qo{V:VT}{q:Option V.den}{ok:Bool}{a:aP}{vv:Value}(e:(YR V q ok).eval next a L=some (r,h',L'))(b:VR w base Zp h g V.isAgg (V.cells (q.getD V.zero)) vv):
  h'=a∧AR w base Zp h g r (if ok then .tuple #[vv,.bool q.isSome]else vv):=by
 unfold YR at e
 cases ok with
 |true=>
  cases dg e;exact⟨rfl,⟨[vv,.bool q.isSome],rfl,[vv],[.bool q.isSome],rfl,⟨vv,rfl,b⟩,[.bool q.isSome],[],rfl,⟨_,rfl,⟨_,[],rfl,rfl,rfl⟩⟩,rfl⟩⟩
 |false=>
  cases dg e;exact⟨rfl,b⟩
theorem Tt(hX:EA P X.tt)(R:HR w0 Z0 Zp h g w){t tk tv:TypeId}{d:TD}(T:dk P t d)(hd:d.desc= .map tk tv){k:Ty}{V:VT}(hk:EK X tk=some k)(TV:Hu P tv V){x ix:A}{vx Y:Value}(hx:AR w w0.heap.size Zp h g x vx)(hi:AR w w0.heap.size Zp h g ix Y){ok:Bool}
  (e:(Mo k V x ix ok).eval next h L=some (r,h',L')):h'=h∧∃u,(Instr.lookup t vx Y ok).run P w= .ok u w∧AR w w0.heap.size Zp h g r u:=by
 have U:=w6 (P:=P) (w:=w) hX hk;have hu:=T.map hd;obtain⟨zz,hz1,hz2⟩:=aa9 (w:=w) (base:=w0.heap.size) (Zp:=Zp) (h:=h) (g:=g) TV;unfold Mo at e
 split at e
 ·rename_i c z gg cs
  split at e
  ·rename_i y VG hy;have E:FV k y Y:=Qk U.1 (by simpa using VG) hi hy;obtain⟨c1,_,c3⟩:=U.2 y Y E
   ·obtain⟨id,hzi,O⟩:=aN e;subst hzi;clear e;have e:=bq O
    split at e
    ·rename_i wr K H ho
     split at e
     ·rename_i H' hc;obtain⟨hK,hH⟩:=dJ hc;subst hK;have hH:H'=H:=hH;subst hH;obtain⟨l,Z,e⟩:=aN e;have hid:H'[id]? =some (some l):=by
       unfold EE at Z
       split at Z
       ·rename_i q hq
        cases Z;exact hq
       ·cases Z
      obtain⟨g1,g2,b,N,clock,YD,hes,i,J⟩:=R.gh.me c wr (.mp k V) H' id l ho hid;obtain⟨e0,o,rfl⟩:=hx.c;rw[YD]at o
      cases o;have I:∀D∈N.toList,∃y,FV k y D.key:=by
       intro D he;obtain⟨j,Q⟩:=List.mem_iff_getElem?.1 he;have F:j<N.toList.length:=(List.getElem?_eq_some_iff.1 Q).1;have a:j<l.length:=by rw[i];simpa using F
       exact⟨_,(J j l[j] D (ai a) (by simpa using Q)).1⟩
      obtain⟨W,c4,M⟩:=c3 N.toList I;have B:∀(vv:Value) (bb:Bool),((W.map (fun u=>(u.2,true))).getD (zz,false)=(vv,bb))→(Instr.lookup t (.map (some b)) Y ok).run P w= .ok (if ok then .tuple #[vv,.bool bb]else vv) w:=by
       intro vv bb n;simp only[Instr.lookup,Sem.run_bind,run_underlying hu,Result.andThen_ok,MapKept.run_getObj_map hes,Sem.run_pure,c1,c4]
       cases W with
       |none=>simp at n;obtain⟨rfl,rfl⟩:=n;simp[hz1]
       |some q=>obtain⟨q1,q2⟩:=q;simp at n;obtain⟨rfl,rfl⟩:=n;simp
      rcases M with⟨rfl,M⟩|⟨j,D,rfl,M,c6⟩
      ·have hno:∀p∈l,p.1≠y:=by
        intro p hp he;obtain⟨j,Q⟩:=List.mem_iff_getElem?.1 hp;have a:j<l.length:=(List.getElem?_eq_some_iff.1 Q).1;have S:j<N.size:=by rw[←i];exact a
        have:=(J j p N[j] Q (ak S)).1;rw[he]at this;exact M _ (Array.getElem_mem_toList S) (this.same E)
       rw[MK g1 l hno]at e;obtain⟨e1,O⟩:=Qo e hz2;exact⟨e1,_,B zz false rfl,O⟩
      ·have F:j<N.toList.length:=(List.getElem?_eq_some_iff.1 M).1;have a:j<l.length:=by rw[i];simpa using F
       obtain⟨m1,m2⟩:=J j l[j] D (ai a) (by simpa using M);rw[c6]at m1;have hy1:=m1.inj g1 E;have hlj:l[j]? =some (y,l[j].2):=by rw[ai a,←hy1]
       rw[ML g1 l j g2 hlj]at e;obtain⟨e1,O⟩:=Qo (vv:=D.val) e m2;exact⟨e1,_,B D.val true rfl,O⟩
     ·exact(af e).elim
    ·exact(af e).elim
  ·exact(af e).elim
 ·exact(af e).elim
theorem XQ(R:HR w0 Z0 Zp h g w){t:TypeId}{k:Ty}{V:VT}(E:k.isKey=true){c:Nat}(e:(Vz c k V).eval next h L=some (r,h',L')):
  bl P w0 Z0 Zp h g w new (do pure (.value (←Instr.makeMap t none))) r h':=by
 unfold Vz at e;have e:=bq e
 split at e
 ·rename_i K H i
  split at e
  ·rename_i l B;obtain⟨z,n⟩:=dJ B;subst z;have n:l=H:=n;subst n;have e:=cn e
   cases dg e;have u:(w.alloc (.map #[] 0)).heap=w.heap.push (.map #[] 0):=rfl;have a:(w.alloc (.map #[] 0)).heap[w.heap.size]? =some (.map #[] 0):=by rw[u];simp
   obtain⟨d,q⟩:∃d:G,d={ g with pm:=EP g.pm c l.length (w.heap.size,0,0,0) }:=⟨_,rfl⟩;have b:d.pm c l.length=some (w.heap.size,0,0,0):=by rw[q];exact ku _ _ _ _
   obtain⟨y,L'⟩:=R.fH (K:=.mp k V) (x:=([]:List (k.den×V.den))) i u (R.ext.alloc _) (fun F h=>by cases h) q (fun _=>⟨E,List.nodup_nil,w.heap.size,#[],0,b,a,rfl,fun j p I D=>by simp[nth]at D⟩);refine⟨_,.map (some w.heap.size),_,d,?_,.inl rfl,y,L',AR.jU ⟨_,b,rfl⟩,fun o i=> .inl (by rw[q]at i;exact i)⟩;simp[Instr.makeMap,newObj,Sem.run]
  ·exact(af e).elim
 ·exact(af e).elim
theorem Zq{cs a:List C}{b:Bool}{v:Value}(k:cs.all C.known=true)(hh:VR w base Zp h g b cs v){j:aP}{d:G}(c:cw w base Zp j d a v.cells.toList):VR w base Zp j d b a v:=by
 cases b with
 |true=>obtain⟨l,rfl,i⟩:=hh;exact⟨l,rfl,by simpa[Value.cells]using c⟩
 |false=>
  have i:v.oneCell'=true:=cw.one cs [v] k hh v (by simp);have:v.cells= #[v]:=by cases v<;>simp[dp]at i<;>rfl
  rw[this]at c;exact c
theorem MM{β:Type}{k:Ty}(b:k.isKey=true){x:k.den}{z:β}:∀l:List (k.den×β),(∀p∈l,p.1≠x)→oV k.kP l x z=l++[(x,z)]
 |[],_=>rfl
 |p::l,a=>by
  have c:k.kP x p.1=false:=by
   cases d:k.kP x p.1 with
   |false=>rfl
   |true=>exact absurd ((fO k _ _ b).1 d).symm (a p cC)
  simp only[oV,c,cK];rw[MM b l fun q i=>a q (bK _ i)]
theorem MN{β:Type}{k:Ty}(b:k.isKey=true){x:k.den}{y z:β}:∀(l:List (k.den×β)) (j:Nat),(l.map (·.1)).Nodup→l[j]? =some (x,y)→oV k.kP l x z=l.set j (x,z)
 |[],j,_,a=>by simp at a
 |p::l,0,_,a=>by
  simp at a;subst a;simp only[oV,(fO k x x b).2 rfl,List.set_cons_zero]
 |p::l,j+1,c,a=>by
  have a:l[j]? =some (x,y):=by simpa using a
  simp only[bo,List.nodup_cons]at c;have d:k.kP x p.1=false:=by
   cases i:k.kP x p.1 with
   |false=>rfl
   |true=>
    exfalso;apply c.1;rw[←(fO k _ _ b).1 i];exact List.mem_map.2 ⟨(x,y),bW a,rfl⟩
  simp only[oV,d,List.set_cons_succ];rw[MN b l j c.2 a]
theorem Tu(hX:EA P X.tt)(R:HR w0 Z0 Zp h g w){t tk tv:TypeId}{d:TD}(T:dk P t d)(hd:d.desc= .map tk tv){k:Ty}{V:VT}(hk:EK X tk=some k){x ix a:A}{vx vi va:Value}(hx:AR w w0.heap.size Zp h g x vx)(hi:AR w w0.heap.size Zp h g ix vi)(ha:AR w w0.heap.size Zp h g a va)
  (e:(Mp k V x ix a).eval next h L=some (r,h',L')):bl P w0 Z0 Zp h g w new (do Instr.mapUpdate t vx vi va;pure .skip) r h':=by
 have hkk:=w6 (P:=P) (w:=w) hX hk;have hu:=T.map hd;unfold Mp at e
 split at e
 ·rename_i c zi gg cs g' ds
  split at e
  ·rename_i y VG hy;simp only[ah,beq_iff_eq]at VG;obtain⟨⟨⟨Ru,hkn⟩,hg2⟩,ahv⟩:=VG;subst hg2;have Q:FV k y vi:=Qk hkk.1 Ru hi hy;obtain⟨c1,c2,c3⟩:=hkk.2 y vi Q;have ha:VR w w0.heap.size Zp h g V.isAgg ds va:=ha;have hvc:=g9 hkn ha;obtain⟨ds',h1,g1,L1,e,R1,XE,ahx,adc⟩:=cW ds _ h g L _ _ R hvc e;obtain⟨id,hzi,e2⟩:=aN e;subst hzi;clear e;have e:=e2;clear e2;have hx1:=AR.mono XE _ _ hx;have e:=bq e
   split at e
   ·rename_i K H ho
    split at e
    ·rename_i H' z hc hz;obtain⟨hK,hH⟩:=dJ hc;subst hK;have hH:H'=H:=hH;subst hH;obtain⟨l,hl,e⟩:=aN e;obtain⟨H2,hH2,e⟩:=aN e;have e:=cn e
     cases dg e;obtain⟨_,rfl⟩:=BG hH2;have hid:=eB hl;obtain⟨q1,q2,b,N,F,U,O,n,S⟩:=R1.gh.me c true (.mp k V) H' id l ho hid;obtain⟨e0,Z,rfl⟩:=hx1.c;rw[U]at Z
     cases Z;have hzc:=VT.jX ahv adc hz;have hzv:VR w w0.heap.size Zp h1 g1 V.isAgg (V.cells z) va:=Zq hkn ha hzc;have hkeys:∀I∈N.toList,∃y,FV k y I.key:=by
      intro I B;obtain⟨j,Y⟩:=List.mem_iff_getElem?.1 B;have hjs:j<N.toList.length:=(List.getElem?_eq_some_iff.1 Y).1;have D:j<l.length:=by rw[n];simpa using hjs
      exact⟨_,(S j l[j] I (ai D) (by simpa using Y)).1⟩
     obtain⟨res,c4,c5⟩:=c3 N.toList hkeys;have fin:∀(J:Array MapEntry) (u:Nat),(Instr.mapUpdate t (.map (some b)) vi va).run P w= .ok () { w with heap:=w.heap.setIfInBounds b (.map J u) }→((oV k.kP l y z).map (·.1)).Nodup→(oV k.kP l y z).length=J.size→
       (∀(j:Nat) (p:k.den×V.den) (I:MapEntry),(oV k.kP l y z)[j]? =some p→J[j]? =some I→FV k p.1 I.key∧VR w w0.heap.size Zp h1 g1 V.isAgg (V.cells p.2) I.val)→
       bl P w0 Z0 Zp h g w new (do Instr.mapUpdate t (.map (some b)) vi va;pure .skip) nP ((c,.gh true (.mp k V) (H'.set id (some (oV k.kP l y z))))::h1):=by
      intro J u hrun hnd hln W;have hs:=heap_set (o':=Obj.map J u) O;obtain⟨R',Le'⟩:=R1.J6 (w':={ w with heap:=w.heap.setIfInBounds b (.map J u) }) (K:=.mp k V) (x:=(oV k.kP l y z:List (k.den×V.den))) ho hid U rfl (fun c hc=>hs.2 c hc) (by simp)
       (by
        rcases R1.gh.own c (.mp k V) H' id l _ ho hid U with hb |hb
        ·exact n4 R1.ext rfl rfl rfl (by simp) (fun i hi _=>hs.2 i (by simp only at hb;omega))
        ·exact n4 R1.ext rfl rfl rfl (by simp) (fun i hi hn=>hs.2 i (fun h=>hn (by rw[h];exact hb))))
       (fun L2=>⟨q1,hnd,b,J,u,U,hs.1,hln,fun j p I Y B=>⟨(W j p I Y B).1,VR.mono L2 _ _ _ (W j p I Y B).2⟩⟩)
      exact bl.behind XE (fun o ho=>ahx.al▸ho) ⟨.skip,undef,_,_,by simp[hrun],.inr ⟨rfl,rfl⟩,R',Le',AR.skip,fun o ho=> .inl ho⟩
     rcases c5 with⟨rfl,c5⟩|⟨j,I,rfl,c5,c6⟩
     ·have hno:∀p∈l,p.1≠y:=by
       intro p E B;obtain⟨j,Y⟩:=List.mem_iff_getElem?.1 E;have D:j<l.length:=(List.getElem?_eq_some_iff.1 Y).1;have hje:j<N.size:=by rw[←n];exact D
       have:=(S j p N[j] Y (ak hje)).1;rw[B]at this;exact c5 _ (Array.getElem_mem_toList hje) (this.same Q)
      have W7:=MM (z:=z) q1 l hno;refine fin (N.push { key:=vi,val:=va,born:=F }) (F+1) ?_ ?_ ?_ ?_
      ·simp only[Instr.mapUpdate,Sem.run_bind,run_underlying hu,Result.andThen_ok,MapKept.run_getObj_map O,c1,c4];exact MapKept.run_setObj_map _ O
      ·rw[W7,acl,List.nodup_append];refine⟨q2,by simp,fun q hq q' hq'=> ?_⟩;simp at hq';subst hq';obtain⟨p,E,rfl⟩:=List.mem_map.1 hq;exact hno p E
      ·have n:l.length=N.size:=n;rw[W7];simp[n]
      ·have n:l.length=N.size:=n;rw[W7];intro i p I E B
       by_cases hi:i<l.length
       ·rw[aU hi]at E;rw[Array.getElem?_push_lt (by omega)]at B;exact S i p I E (by rw[ak (by omega)];exact B)
       ·rw[bc (by omega)]at E;have hi2:i=l.length:=by
         rcases dz (i -l.length) 1 with h |h
         ·omega
         ·rw[bv (by simpa using h)]at E;cases E
        subst hi2;rw[n]at B;simp at E B;subst E B;exact⟨Q,hzv⟩
     ·have hjs:j<N.toList.length:=(List.getElem?_eq_some_iff.1 c5).1;have D:j<l.length:=by rw[n];simpa using hjs
      obtain⟨m1,m2⟩:=S j l[j] I (ai D) (by simpa using c5);rw[c6]at m1;have hy1:=m1.inj q1 Q;have hlj:l[j]? =some (y,l[j].2):=by rw[ai D,←hy1]
      have hps:=MN (z:=z) q1 l j q2 hlj;have c5':N[j]? =some I:=by simpa using c5
      refine fin (N.modify j fun e=>{ e with key:=vi,val:=va }) F ?_ ?_ ?_ ?_
      ·simp only[Instr.mapUpdate,Sem.run_bind,run_underlying hu,Result.andThen_ok,MapKept.run_getObj_map O,c1,c4,c5',Option.map_some,Option.getD_some,c6,c2];exact MapKept.run_setObj_map _ O
      ·rw[hps,List.map_set];have:(l.map (·.1)).set j y=l.map (·.1):=by
        apply List.ext_getElem?;intro i
        by_cases M:j=i
        ·subst M;rw[cB (by simpa using D),List.getElem?_map,hlj];rfl
        ·rw[cA M]
       rw[this];exact q2
      ·have n:l.length=N.size:=n;rw[hps];simp[n]
      ·rw[hps];intro i p en' E B
       by_cases M:j=i
       ·subst M;rw[cB D]at E
        cases E;rw[Array.getElem?_modify,if_pos rfl,c5']at B
        cases B;exact⟨Q,hzv⟩
       ·rw[cA M]at E;rw[Array.getElem?_modify,if_neg M]at B;exact S i p en' E B
    ·exact(af e).elim
   ·exact(af e).elim
  ·exact(af e).elim
 ·exact(af e).elim
theorem mn{tk a:TypeId}{k:Ty}{V:VT}(hm:BB X tk a=some (k,V)):EK X tk=some k∧bP a X.zF=some V:=by
 unfold BB at hm
 split at hm
 ·rename_i b c;cases hm;exact⟨b,c⟩
 ·cases hm
theorem MO{β:Type}{k:Ty}(b:k.isKey=true){x:k.den}:∀l:List (k.den×β),(∀p∈l,p.1≠x)→J5 k.kP l x=l
 |[],_=>rfl
 |p::l,a=>by
  have c:k.kP x p.1=false:=by
   cases d:k.kP x p.1 with
   |false=>rfl
   |true=>exact absurd ((fO k _ _ b).1 d).symm (a p cC)
  simp only[J5,c];rw[MO b l fun q i=>a q (bK _ i)]
theorem MQ{β:Type}{k:Ty}(b:k.isKey=true){x:k.den}{y:β}:∀(l:List (k.den×β)) (j:Nat),(l.map (·.1)).Nodup→l[j]? =some (x,y)→J5 k.kP l x=l.eraseIdx j
 |[],j,_,a=>by simp at a
 |p::l,0,_,a=>by
  simp at a;subst a;simp only[J5,(fO k x x b).2 rfl,List.eraseIdx_cons_zero]
 |p::l,j+1,c,a=>by
  have a:l[j]? =some (x,y):=by simpa using a
  simp only[bo,List.nodup_cons]at c;have d:k.kP x p.1=false:=by
   cases i:k.kP x p.1 with
   |false=>rfl
   |true=>
    exfalso;apply c.1;rw[←(fO k _ _ b).1 i];exact List.mem_map.2 ⟨(x,y),bW a,rfl⟩
  simp only[J5,d,List.eraseIdx_cons_succ];rw[MQ b l j c.2 a]
theorem Zr{α:Type}{b:Array α}{a:α}{r:List α}(h:b.toList=a::r):b[0]? =some a:=by
 have:b=(a::r).toArray:=by rw[←h]
 rw[this];simp
theorem Tw(hX:EA P X.tt)(R:HR w0 Z0 Zp h g w){ts:Array TypeId}{t tk tv ty:TypeId}{d:TD}(hts:ts[0]? =some t)(T:dk P t d)(hd:d.desc= .map tk tv){k:Ty}{V:VT}(hk:EK X tk=some k){x ix:A}{vx vi:Value}(hx:AR w w0.heap.size Zp h g x vx)(hi:AR w w0.heap.size Zp h g ix vi)
  (e:(Mq k V x ix).eval next h L=some (r,h',L')):bl P w0 Z0 Zp h g w new (do pure (.value (←Builtin.delete_ ts ty #[vx,vi]))) r h':=by
 have hkk:=w6 (P:=P) (w:=w) hX hk;have hu:=T.map hd;unfold Mq at e
 split at e
 ·rename_i c zi gg cs
  split at e
  ·rename_i y VG hy;have Z:FV k y vi:=Qk hkk.1 (by simpa using VG) hi hy;obtain⟨c1,c2,c3⟩:=hkk.2 y vi Z;obtain⟨id,hzi,e2⟩:=aN e;subst hzi;clear e;have e:=bq e2
   split at e
   ·rename_i K H ho
    split at e
    ·rename_i H' hc;obtain⟨hK,hH⟩:=dJ hc;subst hK;have hH:H'=H:=hH;subst hH;obtain⟨l,hl,e⟩:=aN e;obtain⟨H2,hH2,e⟩:=aN e;have e:=cn e
     cases dg e;obtain⟨_,rfl⟩:=BG hH2;have hid:=eB hl;obtain⟨q1,q2,b,E,F,O,J,n,N⟩:=R.gh.me c true (.mp k V) H' id l ho hid;obtain⟨e0,W,rfl⟩:=hx.c;rw[O]at W
     cases W;have hkeys:∀q∈E.toList,∃y,FV k y q.key:=by
      intro q S;obtain⟨j,U⟩:=List.mem_iff_getElem?.1 S;have M:j<E.toList.length:=(List.getElem?_eq_some_iff.1 U).1;have B:j<l.length:=by rw[n];simpa using M
      exact⟨_,(N j l[j] q (ai B) (by simpa using U)).1⟩
     obtain⟨res,c4,c5⟩:=c3 E.toList hkeys;have fin:∀(u:Array MapEntry) (a:Nat),(Builtin.delete_ ts ty #[.map (some b),vi]).run P w= .ok (.tuple #[]) { w with heap:=w.heap.setIfInBounds b (.map u a) }→((J5 k.kP l y).map (·.1)).Nodup→(J5 k.kP l y).length=u.size→
       (∀(j:Nat) (p:k.den×V.den) (q:MapEntry),(J5 k.kP l y)[j]? =some p→u[j]? =some q→FV k p.1 q.key∧VR w w0.heap.size Zp h g V.isAgg (V.cells p.2) q.val)→
       bl P w0 Z0 Zp h g w new (do pure (.value (←Builtin.delete_ ts ty #[.map (some b),vi]))) nP ((c,.gh true (.mp k V) (H'.set id (some (J5 k.kP l y))))::h):=by
      intro u a hrun hnd hln Q;have hs:=heap_set (o':=Obj.map u a) J;obtain⟨R',Le'⟩:=R.J6 (w':={ w with heap:=w.heap.setIfInBounds b (.map u a) }) (K:=.mp k V) (x:=(J5 k.kP l y:List (k.den×V.den))) ho hid O rfl (fun c hc=>hs.2 c hc) (by simp)
       (by
        rcases R.gh.own c (.mp k V) H' id l _ ho hid O with hb |hb
        ·exact n4 R.ext rfl rfl rfl (by simp) (fun i hi _=>hs.2 i (by simp only at hb;omega))
        ·exact n4 R.ext rfl rfl rfl (by simp) (fun i hi hn=>hs.2 i (fun h=>hn (by rw[h];exact hb))))
       (fun L2=>⟨q1,hnd,b,u,a,O,hs.1,hln,fun j p q U S=>⟨(Q j p q U S).1,VR.mono L2 _ _ _ (Q j p q U S).2⟩⟩)
      exact⟨_,.tuple #[],_,_,by simp[hrun],.inl rfl,R',Le',⟨[],rfl,rfl⟩,fun o ho=> .inl ho⟩
     have z:∀(j:Nat) (p:k.den×V.den) (q:MapEntry),l[j]? =some p→E[j]? =some q→FV k p.1 q.key∧VR w w0.heap.size Zp h g V.isAgg (V.cells p.2) q.val:=N
     rcases c5 with⟨rfl,c5⟩|⟨j,q,rfl,c5,c6⟩
     ·have hno:∀p∈l,p.1≠y:=by
       intro p hp S;obtain⟨j,U⟩:=List.mem_iff_getElem?.1 hp;have B:j<l.length:=(List.getElem?_eq_some_iff.1 U).1;have hje:j<E.size:=by rw[←n];exact B
       have:=(N j p E[j] U (ak hje)).1;rw[S]at this;exact c5 _ (Array.getElem_mem_toList hje) (this.same Z)
      have D:=MO q1 l hno;refine fin E F ?_ ?_ ?_ ?_
      ·simp[Builtin.delete_,hts,run_underlying hu,MapKept.run_getObj_map J,c1,c4,MapKept.run_setObj_map _ J]
      ·rw[D];exact q2
      ·rw[D];exact n
      ·rw[D];exact z
     ·have M:j<E.toList.length:=(List.getElem?_eq_some_iff.1 c5).1;have B:j<l.length:=by rw[n];simpa using M
      have hjz:j<E.size:=by simpa using M
      obtain⟨m1,m2⟩:=N j l[j] q (ai B) (by simpa using c5);rw[c6]at m1;have hy1:=m1.inj q1 Z;have hlj:l[j]? =some (y,l[j].2):=by rw[ai B,←hy1]
      have D:=MQ q1 l j q2 hlj;have n:l.length=E.size:=n;refine fin (E.eraseIdxIfInBounds j) F ?_ ?_ ?_ ?_
      ·simp[Builtin.delete_,hts,run_underlying hu,MapKept.run_getObj_map J,c1,c4,MapKept.run_setObj_map _ J]
      ·rw[D];exact List.Nodup.sublist ((List.eraseIdx_sublist l j).map _) q2
      ·rw[D,List.length_eraseIdx_of_lt B];simp[Array.eraseIdxIfInBounds,hjz,n]
      ·rw[D];intro i p Y hp S;have I:(E.toList.eraseIdx j)[i]? =some Y:=by
        rw[←S];simp only[Array.eraseIdxIfInBounds,hjz,dif_pos];rw[←aD,Array.toList_eraseIdx]
       rw[List.getElem?_eraseIdx]at hp I
       split at hp
       ·rename_i hij;rw[if_pos hij]at I;exact z i p Y hp (by simpa using I)
       ·rename_i hij;rw[if_neg hij]at I;exact z (i+1) p Y hp (by simpa using I)
    ·exact(af e).elim
   ·exact(af e).elim
  ·exact(af e).elim
 ·exact(af e).elim
section
variable {P:Program} {w0:W0} {w w':World} {Z0 Zp:bj} {h h':aP} {g:G} {new next base:Nat} {r:A} {L L':Log} {X:Cx}
def Rz:Op→Bool
 |.call c=>match c.callee with
  |.value _=>true
  |_=>false
 |_=>false
theorem vL{t c:TypeId}(b:P.underlying t=some (.pointer c))(a:Option Addr)(d:Nat):(Op.equalIn (d+1) t (.pointer a) (.pointer none)).run P w= .ok a.isNone w:=by
 unfold Op.equalIn;rw[Sem.run_bind,run_underlying b]
 cases a<;>rfl
theorem MR{op:BinOp}{t:TypeId}{d:TD}(T:dk P t d){x y:Operand}{nil sl:Bool}{E:A}{i k:Value}(B:match sl with |false=>∃a,i= .pointer a∧a.isNone=nil |true=>∃a n c,i= .slice a n c∧a.isNone=nil)
  (D:AR w base Zp h g E k) (e:(Hp sl op d nil E).eval next h L=some (r,h',L')):
  h'=h∧∃c v,r= .v false [c]∧(do eqGuard op t x y i k;binOp op t i k:Sem Value).run P w= .ok v w∧CR w base Zp h g c v:=by
 unfold Hp at e;have go:∀u:Value,(eqGuard .eql t x y i u).run P w= .ok () w→(eqGuard .neq t x y i u).run P w= .ok () w→(Op.equal t i u).run P w= .ok nil w→k=u→(binOp .eql t i u).run P w= .ok (.bool nil) w→(binOp .neq t i u).run P w= .ok (.bool (!nil)) w→(Hp.go op nil).eval next h L=some (r,h',L')→
   h'=h∧∃c v,r= .v false [c]∧(do eqGuard op t x y i k;binOp op t i k:Sem Value).run P w= .ok v w∧CR w base Zp h g c v:=by
  intro u p o K F H I e;subst F;unfold Hp.go at e
  split at e
  ·obtain⟨rfl,rfl,_⟩:=fw e;exact⟨rfl,_,_,rfl,by simp only[Sem.run_bind,p,Result.andThen_ok];exact H,rfl⟩
  ·obtain⟨rfl,rfl,_⟩:=fw e;exact⟨rfl,_,_,rfl,by simp only[Sem.run_bind,o,Result.andThen_ok];exact I,rfl⟩
  ·exact(af e).elim
 split at e
 ·rename_i z l;obtain⟨a,n,c,rfl,q⟩:=B;have b:=D.c;have b:k= .slice none 0 0:=b;have j:=Go.run_equal_slice_nil w t z a n c (T.slice l);rw[q]at j;exact go _ (by simp[eqGuard]) (by simp[eqGuard]) j b (by simp[binOp,j]) (by simp[binOp,j]) e
 ·rename_i z l;obtain⟨a,rfl,q⟩:=B;have b:=D.c;have b:k= .pointer none:=b;have J:P.underlying t=some (.pointer z):=by
   obtain⟨y,p,o⟩:=T.under;rw[l]at o
   cases y<;>simp[ry]at o;rw[p,o]
  have j:(Op.equal t (.pointer a) (.pointer none)).run P w= .ok nil w:=by
   rw[←q];exact vL J a 9999
  exact go _ (by simp[eqGuard]) (by simp[eqGuard]) j b (by simp[binOp,j]) (by simp[binOp,j]) e
 ·exact(af e).elim
theorem XR{a:A}{c o:Nat}{z:Option Nat}(h:acO a=some (c,o,z)):a= .v false [.gp c o z]:=by
 unfold acO at h
 split at h
 ·cases h;rfl
 ·cases h
theorem Zs(hX:EA P X.tt)(R:HR w0 Z0 Zp h g w){op:BinOp}{t:TypeId}{d:TD}(T:dk P t d){x y:Operand}{c o c' o':Nat}{z z':Option Nat}{F l:Value}(hx:CR w w0.heap.size Zp h g (.gp c o z) F)(E:CR w w0.heap.size Zp h g (.gp c' o' z') l)
  (e:(YS X op d c o z (c',o',z')).eval next h L=some (r,h',L')):
  h'=h∧∃c v,r= .v false [c]∧(do eqGuard op t x y F l;binOp op t F l:Sem Value).run P w= .ok v w∧CR w w0.heap.size Zp h g c v:=by
 unfold YS at e
 split at e
 ·rename_i te hde J;rw[ah]at J;have e1:=aj J.1;have e2:=aj J.2;simp only at e1 e2;subst e1 e2;obtain⟨de,akv,Te,e⟩:=bF hX e
  split at e
  ·rename_i B;have B:0<de.size:=by simpa[cS]using B
   have e:=bq e
   split at e
   ·rename_i wr V H ho;obtain⟨b,n,e⟩:=aN e;have hu:P.underlying t=some (.pointer te):=by
     obtain⟨y,h1,h2⟩:=T.under;rw[hde]at h2
     cases y<;>simp[ry]at h2;rw[h1,h2]
    obtain⟨j,hj,hjs,_⟩:=Te.inf;have go:(∃Z a,F= .pointer Z∧l= .pointer a)→(binOp .eql t F l).run P w= .ok (.bool b) w→h'=h∧∃c v,r= .v false [c]∧(do eqGuard op t x y F l;binOp op t F l:Sem Value).run P w= .ok v w∧CR w w0.heap.size Zp h g c v:=by
     rintro⟨Z,a,rfl,rfl⟩ D
     split at e
     ·obtain⟨rfl,rfl,_⟩:=fw e;exact⟨rfl,_,_,rfl,by simp[eqGuard,D],rfl⟩
     ·obtain⟨rfl,rfl,_⟩:=fw e;have Q:(Op.equal t (.pointer Z) (.pointer a)).run P w= .ok b w:=by
       simp only[binOp,Sem.run_bind]at D
       cases Q:(Op.equal t (.pointer Z) (.pointer a)).run P w with
       |ok b' w'=>rw[Q]at D;simp at D;rw[D.1,D.2]
       |_=>rw[Q]at D;simp[Result.andThen]at D
      exact⟨rfl,_,_,rfl,by simp[eqGuard,binOp,Q],rfl⟩
     ·exact(af e).elim
    have p:∀a:Option Addr,(binOp .eql t (.pointer none) (.pointer a)).run P w= .ok (.bool a.isNone) w:=fun a=>by
     have h9:∀d:Nat,(Op.equalIn (d+1) t (.pointer none) (.pointer a)).run P w= .ok a.isNone w:=fun d=>by
      simp[Op.equalIn,run_underlying hu]
     simp only[binOp];simp[Op.equal,Op.maxDepth,h9 9999]
    cases z with
    |none=>
     have hx:F= .pointer none:=hx;subst hx
     cases z' with
     |none=>
      have E:l= .pointer none:=E;subst E
      cases n;exact go ⟨_,_,rfl,rfl⟩ (p none)
     |some j'=>
      obtain⟨q,_,_,rfl⟩:=E
      cases n;exact go ⟨_,_,rfl,rfl⟩ (p (some _))
    |some i=>
     obtain⟨q,Q,_,rfl⟩:=hx
     cases z' with
     |none=>
      have E:l= .pointer none:=E;subst E
      cases n;refine go ⟨_,_,rfl,rfl⟩ ?_;have:=vL (P:=P) (w:=w) hu (some ⟨q.1,o,none⟩) 9999;simp only[binOp];simp[Op.equal,Op.maxDepth,this]
     |some Y=>
      obtain⟨q',S,_,rfl⟩:=E;unfold YH at n;simp only at n
      split at n
      ·rename_i u u' U W
       cases n;obtain⟨_,b1,akw,akx,e01,O,K,_⟩:=R.gh.me c wr (.st V) H i u ho (eB U);obtain⟨_,b2,ahj,aky,e02,k,M,_⟩:=R.gh.me c wr (.st V) H Y u' ho (eB W);rw[O]at Q;cases Q;rw[k]at S;cases S;refine go ⟨_,_,rfl,rfl⟩ ?_
       by_cases N:i=Y
       ·subst N;rw[O]at k;cases k;have hbt:bh i i=true:=Nat.beq_refl i;rw[hbt];exact run_eql_ptr_same w _ hu hj
       ·have hbf:bh i Y=false:=by
         cases I:bh i Y with
         |false=>rfl
         |true=>exact absurd (aj I) N
        rw[hbf];refine run_eql_ptr_other w hu hj (by omega) (fun hab=>N ?_) K M;have I:b1=b2:=by injection hab
        exact(R.gh.iW c i c Y b1 ⟨wr,.st V,H,u,_,ho,eB U,O,rfl⟩ ⟨wr,.st V,H,u',_,ho,eB W,k,I.symm⟩).2
      ·cases n
   ·exact(af e).elim
  ·exact(af e).elim
 ·exact(af e).elim
theorem DH{env:Env}{a:Act}(p:∀t,AR w base Zp h g (look aA t env) (a.tmps.getD t undef)){i:A×aP×Log}:∀(j:List Operand) (k:List (Nat×Nat)→List Nat→HM) (L:Log),(Mm (j.map (sV env)) k).eval next h L=some i→
  ∃l b n,(k l b).eval next h n=some i∧qe g.pm l b (j.map a.eval)
 |[],k,L,e=>⟨[],[],L,e,rfl⟩
 |x::j,k,L,e=>by
  have u:=ce p x;rw[bo]at e;unfold Mm at e
  split at e
  ·rename_i y;cases y
  ·rename_i c J z K k d;rw[List.cons.injEq]at d;obtain⟨B,D⟩:=d;subst D;rw[B]at u;obtain⟨id,o,e⟩:=aN e;subst o;obtain⟨q,E,F,H⟩:=u.c;obtain⟨l,b,n,e,I⟩:=DH p j _ _ e;exact⟨_,_,n,e,q,_,by rw[bo,H],⟨E,F⟩,I⟩
  ·exact(af e).elim
theorem abb(E:EA P X.tt)(hV:O2 P X.zF)(R:HR w0 Z0 Zp h g w)(hn:¬ g.al new){env:Env}{a:Act}(B:∀t,AR w w0.heap.size Zp h g (look aA t env) (a.tmps.getD t undef)){o:Oper}(S:Rz o.op=false)
  (e:(YC X new (sV env) o.op).eval next h L=some (r,h',L')):bl P w0 Z0 Zp h g w new (execOp a.eval o) r h':=by
 unfold execOp
 cases hop:o.op<;>rw[hop]at e S<;>simp only[YC]at e
 case move x=>rw[WV]at e;cases dg e;exact bl.pure R (v:=a.eval x) rfl (ce B x)
 case assign x=>rw[WV]at e;cases dg e;exact bl.pure R (v:=a.eval x) rfl (ce B x)
 case pick c x y=>
  have U:=ce B c
  split at e
  ·rename_i t ht;rw[ht]at U;have U:=U.c;simp only[CR]at U;rw[WV,WV]at e
   cases t<;>simp only[HM.eval]at e<;>cases e
   ·exact bl.pure R (v:=a.eval y) (by simp[U,asBool]) (ce B y)
   ·exact bl.pure R (v:=a.eval x) (by simp[U,asBool]) (ce B x)
  ·exact(af e).elim
 case alloc t=>
  obtain⟨d,N,T,e⟩:=bF E e
  split at e
  ·rename_i c V U Q;have e:=bq e
   split at e
   ·rename_i K H ho
    split at e
    ·rename_i H' hH;obtain⟨hK,rfl⟩:=dJ hH;subst hK;obtain⟨rfl,rfl,_⟩:=bz (cn e);exact VJ R (hV.get Q) ho
    ·exact(af e).elim
   ·exact(af e).elim
  ·exact(af e).elim
  ·split at e
   ·rename_i hz;obtain⟨τ,hτ,e⟩:=o9 e;obtain⟨rfl,rfl,_⟩:=bz (cn e);exact XG R hn T hz hτ
   ·exact(af e).elim
 case box t x=>
  obtain⟨d,N,T,e⟩:=bF E e;have J:=ce B x
  split at e
  ·rename_i gg cs D
   split at e
   ·rename_i U;simp only[ah]at U;rw[D]at J
    split at e
    ·rename_i c V Vq Q;have hvc:=g9 U.1.2 J;obtain⟨cs',F,g1,L1,e,R1,XE,Ru,adc⟩:=cW cs _ h g L _ _ R hvc e;have e:=bq e
     split at e
     ·rename_i K H ho
      split at e
      ·rename_i H' z hH hz _;obtain⟨hK,rfl⟩:=dJ hH;subst hK;obtain⟨rfl,rfl,_⟩:=bz (cn e);exact bl.behind XE (fun o ho=>Ru.al▸ho) (Zk R1 (hV.get Q) ho adc hz)
      ·exact(af e).elim
     ·exact(af e).elim
    ·exact(af e).elim
    ·obtain⟨rfl,rfl,_⟩:=bz (cn e);exact aa3 R hn U.1.2 J
   ·exact(af e).elim
  ·exact(af e).elim
 case build t parts=>
  obtain⟨d,N,T,e⟩:=bF E e
  split at e
  ·rename_i fs p hz
   split at e
   ·rename_i V Q
    split at e
    ·rename_i pl Tg
     split at e
     ·rename_i cs hcs
      cases dg e;exact O5 E R T p (hV.get Q) Tg B hcs
     ·exact(af e).elim
    ·exact(af e).elim
   ·exact(af e).elim
  ·rename_i fs p hz;obtain⟨τ,hτ,e⟩:=o9 e
   split at e
   ·rename_i pl Tg
    split at e
    ·rename_i cs hcs
     cases dg e;exact Rx E R T p hz hτ Tg B hcs
    ·exact(af e).elim
   ·exact(af e).elim
  ·rename_i n te p hz;obtain⟨τ,hτ,e⟩:=o9 e;obtain⟨de,hde,Te,e⟩:=bF E e
   split at e
   ·rename_i cs hcs
    cases dg e;exact Td R T Te p hz hτ B hcs
   ·exact(af e).elim
  ·exact(af e).elim
 case buildSlice t len parts=>
  obtain⟨d,N,T,e1⟩:=bF E e;clear e
  split at e1
  ·rename_i te p;obtain⟨de,hde,Te,e2⟩:=bF E e1;clear e1
   split at e2
   ·rename_i hak hps;have hps:parts= #[]:=Array.toList_eq_nil_iff.1 hps;subst hps
    split at e2
    ·rename_i V Q;have e3:=bq e2
     split at e3
     ·rename_i K H ho
      split at e3
      ·rename_i H' hH;obtain⟨hK,rfl⟩:=dJ hH;subst hK;obtain⟨rfl,rfl,_⟩:=bz (cn e3);exact VK R T Te p (hV.get Q) ho (by simp)
      ·exact(af e3).elim
     ·exact(af e3).elim
    ·exact(af e2).elim
   ·obtain⟨τ,hτ,e3⟩:=o9 e2
    split at e3
    ·rename_i U;exact MC R hn T Te p hτ B U e3
    ·exact(af e3).elim
  ·exact(af e1).elim
 case load t x=>
  obtain⟨d,N,T,e⟩:=bF E e;obtain⟨rfl,u,F,I⟩:=Hv R T (ce B x) e;exact bl.val R F I
 case store t x y=>
  obtain⟨d,N,T,e⟩:=bF E e;exact XH R T (ce B x) (ce B y) e
 case nilCheck x=>
  obtain⟨rfl,b,off,hv,har⟩:=My (ce B x) e;simp only[cR]at har;refine bl.pure R (v:=.pointer (some ⟨b,off,none⟩)) ?_ har;simp[hv]
 case binOp op t x y ty=>
  have J:=ce B x;have hy:=ce B y
  split at e
  ·rename_i b D;obtain⟨d,N,T,e⟩:=bF E e
   split at e
   ·rename_i p;have hu:P.underlying t=some .bool:=by
     obtain⟨y,F,I⟩:=T.under;rw[p]at I
     cases y<;>simp[ry]at I;exact F
    rw[←D]at e;obtain⟨rfl,c,v,rfl,F,I⟩:=S7 (P:=P) (t:=t) (x:=x) (y:=y) (fun _ _ _ _=>hu) J hy e;exact bl.val R F (AR.jU I)
   ·exact(af e).elim
  ·rename_i cs D;obtain⟨d,N,T,e⟩:=bF E e;rw[D]at J;obtain⟨rfl,c,v,rfl,F,I⟩:=aa7 (P:=P) (x:=x) (y:=y) T J hy e;exact bl.val R F (AR.jU I)
  ·rename_i ty1 l1 tk D;obtain⟨d,N,T,e⟩:=bF E e;rw[D]at J;obtain⟨rfl,c,v,rfl,F,I⟩:=Zo (P:=P) (x:=x) (y:=y) T J hy e;exact bl.val R F (AR.jU I)
  ·rename_i c1 o1 z D;obtain⟨d,N,T,e⟩:=bF E e;rw[D]at J;have hp:∃a':Option Addr,a.eval x= .pointer a'∧a'.isNone=z.isNone:=by
    cases z with
    |none=>exact⟨none,J.c,rfl⟩
    |some id=>obtain⟨q,_,_,hv⟩:=J.c;exact⟨_,hv,rfl⟩
   split at e
   ·rename_i q hq;obtain⟨q1,q2,q3⟩:=q;have hyr:=XR hq;rw[hyr]at hy;obtain⟨rfl,c,v,rfl,F,I⟩:=Zs (P:=P) (x:=x) (y:=y) E R T J.c hy.c e;exact bl.val R F (AR.jU I)
   ·obtain⟨rfl,c,v,rfl,F,I⟩:=MR (P:=P) (x:=x) (y:=y) T hp hy e;exact bl.val R F (AR.jU I)
  ·rename_i c1 z D;obtain⟨d,N,T,e⟩:=bF E e;rw[D]at J;have hp:∃(a':Option Addr) (n c:Nat),a.eval x= .slice a' n c∧a'.isNone=z.isNone:=by
    cases z with
    |none=>exact⟨none,0,0,J.c,rfl⟩
    |some q=>obtain⟨id,a0,n0⟩:=q;obtain⟨_,_,_,_,_,_,_,_,hv⟩:=J.c;exact⟨_,_,_,hv,rfl⟩
   obtain⟨rfl,c,v,rfl,F,I⟩:=MR (P:=P) (x:=x) (y:=y) T hp hy e;exact bl.val R F (AR.jU I)
  ·rename_i hnb _ _ _ _;obtain⟨rfl,c,v,rfl,F,I⟩:=S7 (P:=P) (t:=t) (x:=x) (y:=y) (fun b _ hb _=>absurd hb (hnb b)) J hy e;exact bl.val R F (AR.jU I)
 case unOp op t x=>
  obtain⟨rfl,c,v,rfl,F,I⟩:=aaW (P:=P) (ce B x) e;exact bl.val R F (AR.jU I)
 case convert src dst x=>
  obtain⟨d1,hd1,T1,e⟩:=bF E e;obtain⟨d,N,T,e⟩:=bF E e;have J:=ce B x
  split at e
  ·rename_i k k' n p D;rw[D]at J;have hxv:=J.c;simp only[CR]at hxv;obtain⟨rfl,rfl,_⟩:=dt e;obtain⟨y,hy,_⟩:=T1.under;refine bl.val R (v:=.int k (k.wrap n)) ?_ (AR.jU rfl);simp[convert,run_underlying hy,run_underlying (T.int p),hxv,Conv.intToInt]
  ·rename_i c0 p D;rw[D]at J
   split at e
   ·rename_i te hs;obtain⟨de,hde,Te,e⟩:=bF E e
    split at e
    ·rename_i hu8;obtain⟨c',L1,e,hc'⟩:=Ch R J.c e
     split at e
     ·rename_i l tk;obtain⟨rfl,rfl,_⟩:=bz e;exact bl.val R (XP (T1.slice hs) (Te.int hu8) (T.string p) hc'.1) (AR.jU rfl)
     ·obtain⟨rfl,rfl,_⟩:=bz e;simp only[CR]at hc';have hr:=run_convert_bytes_nil (P:=P) w src te (T1.slice hs) (Te.int hu8) 0 0 dst (T.string p);rw[←hc']at hr;exact bl.val R hr (AR.jU rfl)
     ·exact(af e).elim
    ·exact(af e).elim
   ·exact(af e).elim
  ·exact(af e).elim
 case makeFunc fn first captured=>
  cases fn<;>simp only at e<;>try (exact(af e).elim)
  rename_i f
  split at e
  ·rename_i ids h0 ahB;obtain⟨rfl,rfl,_⟩:=bz e;have W:first= #[]:=Array.eq_empty_of_size_eq_zero h0
   have:=MG R B captured.toList ids (by simpa using ahB);refine bl.pure R (v:=.func (.func f) #[] (captured.map a.eval)) (by simp[Instr.makeFunc,W]) (AR.jU ⟨_,rfl,by simpa using this⟩)
  ·obtain⟨l,ids,L1,e,F⟩:=DH B first.toList _ _ e;obtain⟨m,jds,L2,e,I⟩:=DH B captured.toList _ _ e;obtain⟨rfl,rfl,_⟩:=bz e;exact bl.pure R (v:=.func (.func f) (first.map a.eval) (captured.map a.eval)) (by simp[Instr.makeFunc]) (AR.jU ⟨_,_,rfl,by simpa using F,by simpa using I⟩)
 case makeSlice t l c=>
  obtain⟨d,N,T,e⟩:=bF E e
  split at e
  ·rename_i te p;obtain⟨de,hde,Te,e⟩:=bF E e
   split at e
   ·rename_i cl V Vq Q
    split at e
    ·rename_i k n _ O hlr _;have Z:=ce B l;have e:=bq e
     split at e
     ·rename_i K H ho
      split at e
      ·rename_i H' hH;obtain⟨hK,rfl⟩:=dJ hH;subst hK;obtain⟨n',hn',e⟩:=aN e;obtain⟨rfl,rfl,_⟩:=bz (cn e);have hlc:l=c:=by
        unfold Rc at O
        split at O
        ·rw[aj O]
        ·cases O
       subst hlc;rw[hlr]at Z;have Z:=Z.c;simp only[CR]at Z;refine(?_:bl P w0 Z0 Zp _ g w new (Instr.makeSlice t (a.eval l) (a.eval l) >>= fun x=>Pure.pure (Next.value x)) _ _);rw[Z];exact XL R T Te p (hV.get Q) ho hn'
      ·exact(af e).elim
     ·exact(af e).elim
    ·exact(af e).elim
   ·exact(af e).elim
   ·split at e
    ·rename_i U;simp only[ah]at U;have Y:0<de.size:=by have:=U.2;simpa[cS]using this
     obtain⟨τ,hτ,e⟩:=o9 e;have Z:=ce B l;have M:=ce B c
     split at e
     ·rename_i k n O hlr;obtain⟨n',hn',e⟩:=aN e;obtain⟨rfl,rfl,_⟩:=bz (cn e);have hlc:l=c:=by
       unfold Rc at O
       split at O
       ·rw[aj O]
       ·cases O
      subst hlc;rw[hlr]at Z;have Z:=Z.c;simp only[CR]at Z;refine(?_:bl P w0 Z0 Zp _ g w new (Instr.makeSlice t (a.eval l) (a.eval l) >>= fun x=>Pure.pure (Next.value x)) _ _);rw[Z];exact Zf R hn T Te p U.1 hτ Y hn'
     ·rename_i k k' n O hlr hcr;obtain⟨n',hn',e⟩:=aN e;obtain⟨rfl,rfl,_⟩:=bz (cn e);rw[hlr]at Z;rw[hcr]at M;have Z:=Z.c;have M:=M.c;simp only[CR]at Z M;refine(?_:bl P w0 Z0 Zp _ g w new (Instr.makeSlice t (a.eval l) (a.eval c) >>= fun x=>Pure.pure (Next.value x)) _ _);rw[Z,M];exact XJ R hn T Te p U.1 hτ hn'
     ·exact(af e).elim
    ·exact(af e).elim
  ·exact(af e).elim
 case slice t x lo hi mx=>
  obtain⟨d,N,T,e⟩:=bF E e;obtain⟨u,g',F,I,h3,h4,h5⟩:=VF E hV R T (ce B x) (DD B lo) (DD B hi) (DD B mx) e;exact⟨_,u,w,g',by simp[F],.inl rfl,I,h3,h5,fun o ho=> .inl (h4.al▸ho)⟩
 case fieldAddr s x j=>
  obtain⟨d,N,T,e⟩:=bF E e
  split at e
  ·rename_i f W;obtain⟨df,hdf,Tf,e⟩:=bF E e
   split at e
   ·rename_i Y;have Y:0<df.size:=by simpa[cS]using Y
    obtain⟨rfl,b,off,hv,har⟩:=My (ce B x) e;unfold EJ at W
    split at W
    ·rename_i fs p;obtain⟨ff,hu,hfs⟩:=T.struct p;rw[←hfs,List.getElem?_map]at W
     cases hfj:ff.toList[j]? with
     |none=>simp[hfj]at W
     |some q=>
      simp only[hfj,Option.map_some,Option.some.injEq]at W;subst W;have hq:ff[j]? =some q:=by simpa using hfj
      refine bl.val R (v:=.pointer (some ⟨b,off+q.offset,none⟩)) ?_ har;simp[Instr.fieldAt,run_underlying hu,hq,hv,Instr.sureAddr,Mx Tf Y]
    ·cases W
   ·exact(af e).elim
  ·exact(af e).elim
 case field s x j=>
  obtain⟨d,N,T,e⟩:=bF E e
  split at e
  ·rename_i f W;obtain⟨df,hdf,Tf,e⟩:=bF E e;have J:=ce B x
   split at e
   ·rename_i cs D;rw[D]at J;obtain⟨vs,hv,hcs⟩:=J.agg;obtain⟨rfl,u,F,I⟩:=Za (P:=P) Tf hcs e;unfold EJ at W
    split at W
    ·rename_i fs p;obtain⟨ff,hu,hfs⟩:=T.struct p;rw[←hfs,List.getElem?_map]at W
     cases hfj:ff.toList[j]? with
     |none=>simp[hfj]at W
     |some q=>
      simp only[hfj,Option.map_some,Option.some.injEq]at W;subst W;have hq:ff[j]? =some q:=by simpa using hfj
      refine bl.val R (v:=u) ?_ I;simp[Instr.field,run_underlying hu,hq,hv,asAgg,F]
    ·cases W
   ·exact(af e).elim
  ·exact(af e).elim
 case indexAddr t x ix=>
  obtain⟨d,N,T,e⟩:=bF E e;obtain⟨rfl,u,F,I⟩:=O3 E hV R T (ce B x) (ce B ix) e;exact bl.val R F I
 case makeMap t rs=>
  cases rs with
  |some _=>exact(af e).elim
  |none=>
   obtain⟨d,N,T,e⟩:=bF E e
   split at e
   ·split at e
    ·split at e
     ·rename_i k V hm;exact XQ R (w6 (P:=P) (w:=w) E (mn hm).1).1 e
     ·exact(af e).elim
    ·split at e
     ·rename_i hm;obtain⟨rfl,rfl,_⟩:=bz (cn e);exact Ts E R hn hm
     ·exact(af e).elim
   ·exact(af e).elim
 case lookup t x ix ok=>
  obtain⟨d,N,T,e⟩:=bF E e
  split at e
  ·rename_i p
   split at e
   ·split at e
    ·rename_i hm;obtain⟨rfl,u,F,I⟩:=Tt E R T p (mn hm).1 (hV.get (mn hm).2) (ce B x) (ce B ix) e;exact bl.val R F I
    ·exact(af e).elim
   ·split at e
    ·rename_i hm;obtain⟨rfl,u,F,I⟩:=VM E R T p hm (ce B x) (ce B ix) e;exact bl.val R F I
    ·exact(af e).elim
  ·exact(af e).elim
 case mapUpdate t m ix x=>
  obtain⟨d,N,T,e⟩:=bF E e
  split at e
  ·rename_i p
   split at e
   ·split at e
    ·rename_i hm;exact Tu E R T p (mn hm).1 (ce B m) (ce B ix) (ce B x) e
    ·exact(af e).elim
   ·split at e
    ·rename_i hm;exact VN E R T p hm (ce B m) (ce B ix) (ce B x) e
    ·exact(af e).elim
  ·exact(af e).elim
 case index t x ix=>
  obtain⟨d,N,T,e⟩:=bF E e;have J:=ce B x;have hi:=ce B ix;unfold YQ at e
  split at e
  ·rename_i s k i p D hir;rw[D]at J;rw[hir]at hi;have hxv:=J.c;have hiv:=hi.c;simp only[CR]at hxv hiv;obtain⟨n,hn2,e⟩:=aN e;obtain⟨rfl,rfl,_⟩:=dt e;obtain⟨h0,b,hb,rfl⟩:=XO hn2;refine bl.val R (v:=.int .u8 b.toNat) ?_ (AR.jU rfl);have hlt:i.toNat<s.length:=(List.getElem?_eq_some_iff.1 hb).1;have S0:(⟨s.toArray⟩:ByteArray)[i.toNat]? =some b:=by
    rw[getElem?_pos (⟨s.toArray⟩:ByteArray) i.toNat (by rw[zN];exact hlt)];have:=(List.getElem?_eq_some_iff.1 hb).2;rw[←this];rfl
   simp[Instr.index,hxv,hiv,asIntOf,run_underlying (T.string p),h0,S0]
  ·exact(af e).elim
 case extract x j=>
  obtain⟨rfl,u,F,I⟩:=Tm (P:=P) (ce B x) e;exact bl.val R F I
 case call c=>
  simp only[Rz]at S
  split at e
  ·rename_i M
   split at e
   ·rename_i t ts x ix hts Rp;obtain⟨x0,i0,hxi,D,hir⟩:=zT Rp;have has:=Zn hxi;have J:=ce B x0;have hi:=ce B i0;rw[D]at J;rw[hir]at hi;obtain⟨d,N,T,e⟩:=bF E e
    split at e
    ·rename_i p
     split at e
     ·rename_i hm;obtain⟨n,v,w',g',F,I⟩:=Tw (new:=new) (ty:=o.type) E R (Zr hts) T p (mn hm).1 J hi e;refine⟨n,v,w',g',?_,I⟩;simp only[resolve,M,Sem.run_bind,Sem.run_pure,Result.andThen_ok,invoke,has,List.map_toArray,bo,List.map_nil,builtin];simpa only[Sem.run_bind,Sem.run_pure]using F
     ·exact(af e).elim
    ·exact(af e).elim
   ·exact(af e).elim
  ·rename_i b _ M;have:=To (cs:=(c.args.map fun |.const _=>true |_=>false)) E hV R hn B (ty:=o.type) e;obtain⟨n,v,w',g',F,I⟩:=this;exact⟨n,v,w',g',by simp only[resolve,M,Sem.run_bind,Sem.run_pure,Result.andThen_ok,invoke];exact F,I⟩
  ·rename_i f M;rw[M]at S;cases S
  ·exact(af e).elim
 all_goals exact(af e).elim
end
def qf(w:World)(Z Zp:bj)(τ:Ty)(x:τ.den)(v:Value):Prop:=
 match τ.isAgg with
 |true=>∃a:List Value,v= .agg a.toArray∧PR w Z Zp τ x a
 |false=>PR w Z Zp τ x [v]
def qg(w:World)(Z Zp:bj):(ps:List Ty)→(g6 ps).den→List Value→Prop
 |[],_,b=>b=[]
 |[τ],x,b=>∃v,b=[v]∧qf w Z Zp τ x v
 |τ::σ::r,x,b=>∃v a,b=v::a∧qf w Z Zp τ x.1 v∧qg w Z Zp (σ::r) x.2 a
def zl(w:World)(Z Zp:bj)(rs:List Ty)(x:(g6 rs).den)(v:Value):Prop:=
 match rs,x with
 |[τ],x=>qf w Z Zp τ x v
 |rs,x=>∃a:List Value,v= .tuple a.toArray∧qg w Z Zp rs x a
def aI:bj:=fun _ _=>False
def w7(Z:bj)(w w':World):bj:=fun b i=>Z b i∨(w.heap.size≤b∧b<w'.heap.size)
structure ar (P:Program) (f:FuncId) (E:Entry):Prop where
 fn:∃fn,P.funcs[f]? =some fn∧(fn.name== "runtime.NumGoroutine")=false∧fn.body.isNone=false
 nr:E.rs.all Ty.bH=true
 calls:∀(w:World) (Z Zp:bj) (x:(g6 E.ps).den) (r:(g6 E.rs).den) (args:List Value),(∀b i,Z b i→b<w.heap.size)→(∀b i,Zp b i→b<w.heap.size)→qg w Z Zp E.ps x args→E.F x=some r→
  Calls P f args.toArray w fun e w'=>∃v,e= .returned v∧w.Extends w'∧zl w' (w7 Z w w') aI E.rs r v
def Zt(Z:bj)(w w':World)(a:Option Nat)(lo:Nat):bj:=fun b i=>Z b i∨(w.heap.size≤b∧b<w'.heap.size∧(a=some b→i<lo))
def Zu(w w':World)(size len:Nat)(d:Option Nat)(v:Value):Prop:=
 (d=none∧v= .slice none 0 0∧len=0)∨
 (∃b a c i,d=some b∧v= .slice (some ⟨b,0,none⟩) len a∧w'.heap[b]? =some (.cells c i (0,0))∧
  len≤a∧a≤maxLen∧c.size=a*size∧w.heap.size≤b)
structure n5 (P:Program) (f:FuncId) (E:uJ):Prop where
 fn:∃fn,P.funcs[f]? =some fn∧(fn.name== "runtime.NumGoroutine")=false∧fn.body.isNone=false
 nr:E.e.bH=true
 calls:∀(w:World) (Z Zp:bj) (x:(g6 E.ps).den) (l:List E.e.den) (args:List Value),(∀b i,Z b i→b<w.heap.size)→(∀b i,Zp b i→b<w.heap.size)→qg w Z Zp E.ps x args→E.F x=some l→
  Calls P f args.toArray w fun e w'=>∃v ob,e= .returned v∧w.Extends w'∧PR w' (Zt Z w w' ob (l.length*E.e.size)) aI (.sl E.e) l [v]∧Zu w w' E.e.size l.length ob v
section
variable {P:Program} {w0:W0} {w w':World} {Z0 Zp:bj} {h h':aP} {g:G} {new next base:Nat} {r:A} {L L':Log} {X:Cx}
theorem qf.mono{Z i j a:bj}(p:bQ w w' Z i)(y:bQ w w' j a){τ:Ty}{x:τ.den}{v:Value}(hh:qf w Z j τ x v):qf w' i a τ x v:=by
 unfold qf at hh ⊢
 cases D:τ.isAgg<;>simp only[D]at hh ⊢
 case true=>obtain⟨us,e,E⟩:=hh;exact⟨us,e,PR.mono p y _ _ _ E⟩
 case false=>exact PR.mono p y _ _ _ hh
theorem qf.flat{Z j p a:bj}{τ:Ty}(i:τ.flat=true){x:τ.den}{v:Value}(hh:qf w Z p τ x v):qf w' j a τ x v:=by
 unfold qf at hh ⊢
 cases y:τ.isAgg<;>simp only[y]at hh ⊢
 case true=>obtain⟨us,e,D⟩:=hh;exact⟨us,e,PR.flat _ _ _ i D⟩
 case false=>exact PR.flat _ _ _ i hh
theorem qf.bH{Z j a:bj}{τ:Ty}(i:τ.bH=true){x:τ.den}{v:Value}(hh:qf w Z j τ x v):qf w Z a τ x v:=by
 unfold qf at hh ⊢
 cases p:τ.isAgg<;>simp only[p]at hh ⊢
 case true=>obtain⟨us,e,y⟩:=hh;exact⟨us,e,PR.bH _ _ _ i y⟩
 case false=>exact PR.bH _ _ _ i hh
theorem qf.toVR{τ:Ty}{x:τ.den}{v:Value}(hh:qf w g.Z Zp τ x v):VR w base Zp h g τ.isAgg (τ.cells x) v:=by
 unfold qf at hh;unfold VR
 cases a:τ.isAgg<;>simp only[a]at hh ⊢
 case true=>obtain⟨us,e,i⟩:=hh;exact⟨us,e,cw.nQ _ _ _ i⟩
 case false=>exact cw.nQ _ _ _ hh
theorem qg.map{w1 J:World}{H I D E:bj}{p:Ty→Bool}(j:∀τ (x:τ.den) v,p τ=true→qf w1 H D τ x v→qf J I E τ x v):∀(ps:List Ty) (x:(g6 ps).den) (vs:List Value),ps.all p=true→qg w1 H D ps x vs→qg J I E ps x vs
 |[],_,_,_,hh=>hh
 |[τ],x,_,i,⟨v,e,y⟩=>⟨v,e,j τ x v (by simpa using i) y⟩
 |τ::σ::r,x,_,i,⟨v,a,e,y,hr⟩=>by
  simp only[List.all_cons,ah]at i;exact⟨v,a,e,j τ _ v i.1 y,qg.map j (σ::r) x.2 a (by simpa using i.2) hr⟩
theorem zl.map{w1 I:World}{E H y D:bj}{p:Ty→Bool}(i:∀τ (x:τ.den) v,p τ=true→qf w1 E y τ x v→qf I H D τ x v)(rs:List Ty)(x:(g6 rs).den)(v:Value)(a:rs.all p=true)(hh:zl w1 E y rs x v):zl I H D rs x v:=by
 match rs,x,a,hh with
 |[τ],x,a,hh=>exact i τ x v (by simpa using a) hh
 |[],x,a,⟨vs,e,j⟩=>exact⟨vs,e,qg.map i _ _ _ a j⟩
 |τ::σ::r,x,a,⟨vs,e,j⟩=>exact⟨vs,e,qg.map i _ _ _ a j⟩
theorem RA:∀(rs:List Ty) (x:(g6 rs).den) (vs:List Value),qg w g.Z Zp rs x vs→bY (fun(p:Bool×List C) c=>∃u,c=[u]∧VR w base Zp h g p.1 p.2 u) (YJ rs x) vs
 |[],_,_,d=>d
 |[τ],x,_,⟨v,e,b⟩=>⟨[v],[],by simp[e],⟨v,rfl,b.toVR⟩,rfl⟩
 |τ::σ::r,x,_,⟨v,a,e,b,i⟩=>⟨[v],a,by simp[e],⟨v,rfl,b.toVR⟩,RA (σ::r) x.2 a i⟩
theorem XS(rs:List Ty)(x:(g6 rs).den)(v:Value)(hh:zl w g.Z Zp rs x v):AR w base Zp h g (YK rs x) v:=by
 match rs,x,hh with
 |[τ],x,hh=>exact qf.toVR hh
 |[],x,⟨b,e,a⟩=>exact⟨b,e,RA _ _ _ a⟩
 |τ::σ::r,x,⟨b,e,a⟩=>exact⟨b,e,RA _ _ _ a⟩
def LZ(w:World):bj:=fun b _=>b<w.heap.size
theorem BI(R:HR w0 Z0 Zp h g w):bQ w w g.Z (LZ w):=fun b i a=>⟨R.BE b i a,rfl⟩
theorem mo(R:HR w0 Z0 Zp h g w):bQ w w Zp (LZ w):=fun b i a=>⟨bi (R.zp b i a).1 R.eL,rfl⟩
def Kb(h:aP)(g:G)(w:World):bj:=fun b _=>b<w.heap.size∧∀c id,¬ GL h g c id b
theorem rp(R:HR w0 Z0 Zp h g w):bQ w w Zp (Kb h g w):=fun b i a=>⟨⟨bi (R.zp b i a).1 R.eL,fun c id d=>R.gh.zpx c id b i d a⟩,rfl⟩
theorem VO:bQ w w (Kb h g w) (LZ w):=fun _ _ a=>⟨a.1,rfl⟩
theorem Zv{a:aP}{g1:G}(f:Fz h g a g1):bQ w w (Kb h g w) (Kb a g1 w):=fun _ _ b=>⟨⟨b.1,fun c id d=>b.2 c id (f.gl c id _ d)⟩,rfl⟩
theorem Zw(R:HR w0 Z0 Zp h g w):bQ w w g.Z (Kb h g w):=fun b i a=>⟨⟨R.BE b i a,fun c id d=>R.gh.gI c id b i d a⟩,rfl⟩
def MS(mark:Bool)(h:aP)(g:G)(w:World):bj:=if mark=true then Kb h g w else LZ w
theorem MT(mark:Bool):bQ w w (MS mark h g w) (LZ w):=by
 unfold MS;split
 ·exact VO
 ·exact bQ.refl _ _
theorem W8(R:HR w0 Z0 Zp h g w)(mark:Bool):bQ w w Zp (MS mark h g w):=by
 unfold MS;split
 ·exact rp R
 ·exact mo R
theorem abc{a:aP}{g1:G}(f:Fz h g a g1)(mark:Bool):bQ w w (MS mark h g w) (MS mark a g1 w):=by
 unfold MS;split
 ·exact Zv f
 ·exact bQ.refl _ _
theorem w9(R:HR w0 Z0 Zp h g w):bQ w w (vI h g w).Z (LZ w):=fun b i a=>⟨by
 rcases a with a |⟨o,e,l,k,j,n⟩|⟨c,id,d,_⟩
 ·exact R.BE b i a
 ·exact(R.home o b (by rw[k];simp) j).2
 ·exact R.gh.lt c id b d,rfl⟩
theorem VR.list{a:Bool}{cs:List C}{v:Value}(i:VR w base Zp h g a cs v):∃vs,cw w base Zp h g cs vs∧(a=true→v= .agg vs.toArray)∧(a=false→vs=[v]):=by
 cases a with
 |true=>obtain⟨vs,e,j⟩:=i;exact⟨vs,j,fun _=>e,fun h=>by cases h⟩
 |false=>exact⟨[v],i,fun h=>(by cases h),fun _=>rfl⟩
theorem qf.list{Z j:bj}{τ:Ty}{x:τ.den}{v:Value}{vs:List Value}{a:Bool}(E:a=τ.isAgg)(y:a=true→v= .agg vs.toArray)(D:a=false→vs=[v])(i:PR w Z j τ x vs):qf w Z j τ x v:=by
 subst E;unfold qf
 cases p:τ.isAgg with
 |true=>exact⟨vs,y p,i⟩
 |false=>rw[D p]at i;exact i
theorem DI{a b:Ty}{x:a.den}{y:b.den}(c:mf a b x=some y):∃h:a=b,y=h▸x:=by
 unfold mf at c
 split at c
 ·rename_i e _;subst e
  cases c;exact⟨rfl,rfl⟩
 ·cases c
theorem Zx(mark:Bool):∀(t:Ty) (a:List Nat) (d:List Value) (h:aP) (g:G) (L:Log) (k:t.den→HM) (i:A×aP×Log),HR w0 Z0 Zp h g w→
  bY (fun o es=>g.al o∧∃u,es=[u]∧Cg u∧(look .dead o h≠.dead→∃b,g.hm o=some b∧u= .pointer (some ⟨b,0,none⟩))) a d→(aaN mark t a k).eval next h L=some i→
  ∃x F g1 L1,(k x).eval next F L1=some i∧HR w0 Z0 Zp F g1 w∧Le Zp h g w F g1 w∧Fz h g F g1∧PR w (if mark=true then g1.Z else LZ w) (MS mark F g1 w) t x d:=by
 intro t
 induction t with
 |unit=>
  intro a d h g L k i R J e
  cases a with
  |nil=>
   simp only[bY]at J;exact⟨(),h,g,L,e,R,Le.refl _ _ _ _,Fz.refl _ _,J⟩
  |cons o a=>exact(af e).elim
 |pair t1 t2 _ ih=>
  intro a d h g L k i R J e
  cases t1 with
  |ref σ=>
   cases a with
   |nil=>exact(af e).elim
   |cons o a=>
    obtain⟨es,l,rfl,⟨Rp,u,rfl,hpt,W⟩,B⟩:=J;simp only[aaN]at e
    split at e
    ·rename_i U;have e:=bq e
     split at e
     ·rename_i cs Y;obtain⟨b,hb,rfl⟩:=W (by rw[Y];simp);have V:=R.ob o;rw[Y]at V;obtain⟨b',cur,e0,N,O,hcs⟩:=V;rw[hb]at N;cases N;have I:=cw.take σ.size _ _ hcs;have H:=(R.home o b (by rw[Y];simp) hb).2;have T:∀c id,¬ GL h g c id b:=fun c id hG=>R.gh.loc c id b o hG (by rw[Y];simp) hb;have n:∀(j:Nat) u,(cur.toList.take σ.size)[j]? =some u→w.cell? ⟨b,0+j,none⟩=some u:=fun j u S=>by
       have:=g8 O 0 σ.size j u (by simpa using S);exact this
      cases mark with
      |true=>
       obtain⟨cs',F,g1,L1,e,R1,D,Q,p⟩:=cW _ _ h g _ _ _ R I e
       split at e
       ·rename_i x hx;have K:=da U p hx;obtain⟨y,M,g2,L2,e,R2,E,q,hy⟩:=ih a l F g1 _ _ i R1 (bY.mono (fun o es ⟨ha,u,e,J,hr⟩=>⟨D.al o ha,u,e,J,fun W=>by
         obtain⟨b,F,M⟩:=hr ((D.ob o ha).alive W);exact⟨b,(D.hm o ha W).trans F,M⟩⟩) _ _ B) e
        refine⟨(x,y),M,g2,L2,e,R2,D.trans E,Q.trans q,[_],l,rfl,⟨b,0,_,rfl,PR.mono E.z (W8 R1 true|>.trans (abc q true)) _ _ _ K,fun j u S=>⟨n j u S,⟨H,fun c id hG=>T c id (Q.gl c id b (q.gl c id b hG))⟩⟩⟩,hy⟩
       ·exact(af e).elim
      |false=>
       obtain⟨cs',L1,e,p⟩:=mi R _ _ _ _ _ I e
       split at e
       ·rename_i x hx;have K:=da U p hx;obtain⟨y,M,g2,L2,e,R2,E,q,hy⟩:=ih a l h g _ _ i R B e;refine⟨(x,y),M,g2,L2,e,R2,E,q,[_],l,rfl,⟨b,0,_,rfl,PR.mono (w9 R) (mo R) _ _ _ K,fun j u S=>⟨n j u S,H⟩⟩,hy⟩
       ·exact(af e).elim
     ·exact(af e).elim
    ·exact(af e).elim
  |_=>exact(af (by cases a<;>exact e)).elim
 |_=>intro a d h g L k i R J e;exact(af (by cases a<;>exact e)).elim
theorem MU(mark:Bool)(R:HR w0 Z0 Zp h g w){τ:Ty}{a:A}{v:Value}(M:AR w w0.heap.size Zp h g a v){k:τ.den→HM}{Y:A×aP×Log}(e:(Xw mark τ a k).eval next h L=some Y):
  ∃x p g1 D,(k x).eval next p D=some Y∧HR w0 Z0 Zp p g1 w∧Le Zp h g w p g1 w∧Fz h g p g1∧qf w (if mark=true then g1.Z else LZ w) (MS mark p g1 w) τ x v:=by
 unfold Xw at e
 split at e
 ·rename_i σ o n k
  split at e
  ·rename_i N;have e:=bq e
   split at e
   ·rename_i cs ho;obtain⟨Rp,hp,hd⟩:=M.c;obtain⟨b,hb,rfl⟩:=hd (by rw[ho];simp);have XI:=R.ob o;rw[ho]at XI;obtain⟨b',cur,e0,hb',S,q⟩:=XI;rw[hb]at hb';cases hb';have I:=cw.take σ.size _ _ (cw.drop n _ _ q);have Q:=(R.home o b (by rw[ho];simp) hb).2;have ahE:∀c id,¬ GL h g c id b:=fun c id hG=>R.gh.loc c id b o hG (by rw[ho];simp) hb
    cases mark with
    |true=>
     obtain⟨V,p,g1,D,e,U,J,Ru,z⟩:=cW _ _ h g _ _ _ R I e
     split at e
     ·rename_i x B;have d:=da N z B;refine⟨x,p,g1,D,e,U,J,Ru,b,n,_,rfl,PR.mono (bQ.refl _ _) (rp U) _ _ _ d,fun j u F=>⟨g8 S n σ.size j u F,⟨Q,fun c id hG=>ahE c id (Ru.gl c id b hG)⟩⟩⟩
     ·exact(af e).elim
    |false=>
     obtain⟨V,D,e,z⟩:=mi R _ _ _ _ _ I e
     split at e
     ·rename_i x B;have d:=da N z B;refine⟨x,h,g,D,e,R,Le.refl _ _ _ _,Fz.refl _ _,b,n,_,rfl,PR.mono (w9 R) (mo R) _ _ _ d,fun j u F=>⟨g8 S n σ.size j u F,Q⟩⟩
     ·exact(af e).elim
   ·exact(af e).elim
  ·exact(af e).elim
 ·rename_i σ a' y c k
  split at e
  ·rename_i N
   split at e
   ·rename_i x B;obtain⟨b,n,us,rfl,d,hce⟩:=M.c;have I:=cw.take σ.size _ _ (cw.drop c _ _ (cw.nQ (base:=w0.heap.size) (h:=h) (g:=g) (Zp:=Zp) a' y us d));have T:=da N I B;have i:∀j u,((us.drop c).take σ.size)[j]? =some u→w.cell? ⟨b,n+c+j,none⟩=some u∧MS mark h g w b (n+c+j):=fun j u F=>by
     have p:=hce _ _ (getElem?_sub us c σ.size j u F);rw[cX];refine⟨p.1,?_⟩;rcases p.2 with W |W
     ·unfold MS;split
      ·exact(Zw R _ _ W).1
      ·exact R.BE _ _ W
     ·exact(W8 R mark _ _ W).1
    refine⟨x,h,g,L,e,R,Le.refl _ _ _ _,Fz.refl _ _,b,n+c,_,rfl,?_,i⟩
    cases mark with
    |true=>exact PR.mono (bQ.refl _ _) (rp R) _ _ _ T
    |false=>exact PR.mono (BI R) (mo R) _ _ _ T
   ·exact(af e).elim
  ·exact(af e).elim
 ·rename_i σ c n y k
  split at e
  ·rename_i E;rw[ah]at E;have hm:mark=false:=by simpa using E.2
   subst hm;obtain⟨b,o,cs,vs,D,rfl,q,i,e⟩:=LW R M.c e
   split at e
   ·rename_i x B;have d:=da E.1 (cw.take σ.size _ _ q) B;refine⟨x,h,g,D,e,R,Le.refl _ _ _ _,Fz.refl _ _,b,o,_,rfl,PR.mono (BI R) (mo R) _ _ _ d,fun j u F=> ?_⟩;rw[ax]at F
    split at F
    ·have p:=i j u F;exact⟨p,World.block_lt_of_cell? w _ p⟩
    ·cases F
   ·exact(af e).elim
  ·exact(af e).elim
 ·rename_i σ c id ix n k
  split at e
  ·rename_i E;rw[ah]at E;have hm:mark=false:=by simpa using E.2
   subst hm;obtain⟨b,o,cs,vs,D,rfl,q,i,e⟩:=LW R M.c e
   split at e
   ·rename_i x B;have d:=da E.1 (cw.take σ.size _ _ q) B;refine⟨x,h,g,D,e,R,Le.refl _ _ _ _,Fz.refl _ _,b,o,_,rfl,PR.mono (BI R) (mo R) _ _ _ d,fun j u F=> ?_⟩;rw[ax]at F
    split at F
    ·have p:=i j u F;exact⟨p,World.block_lt_of_cell? w _ p⟩
    ·cases F
   ·exact(af e).elim
  ·exact(af e).elim
 ·rename_i σ c y k
  cases mark with
  |false=>
   obtain⟨l,D,e,hp⟩:=VE R M.c e;exact⟨l,h,g,D,e,R,Le.refl _ _ _ _,Fz.refl _ _,PR.mono (w9 R) (mo R) (.sl σ) l _ hp⟩
  |true=>
   unfold WS at e;have e:=bq e
   split at e
   ·rename_i K H ho
    split at e
    ·rename_i H' hH hn;obtain⟨r,hr,e⟩:=aN e;have e:=cn e;obtain⟨g1,U,J,f1,hp⟩:=Rt R M.c ho hH hn hr;exact⟨r.1,_,g1,_,e,U,J,f1,PR.mono (bQ.refl _ _) (rp U) (.sl σ) _ _ hp⟩
    ·exact(af e).elim
   ·exact(af e).elim
 ·rename_i f t f' ids k
  split at e
  ·rename_i hf _;subst hf;obtain⟨O,hv,hp⟩:=M.c;obtain⟨x,p,g1,D,e,U,J,f1,B⟩:=Zx mark t ids O.toList h g L k Y R hp e;exact⟨x,p,g1,D,e,U,J,f1,O,by rw[hv],B⟩
  ·exact(af e).elim
 ·rename_i f t f' t' y k
  split at e
  ·rename_i hf _;subst hf
   split at e
   ·rename_i x B;obtain⟨rfl,rfl⟩:=DI B;have E:PR w g.Z Zp (.cl f t') x [v]:=M.c;refine⟨x,h,g,L,e,R,Le.refl _ _ _ _,Fz.refl _ _,?_⟩
    cases mark with
    |true=>exact PR.mono (bQ.refl _ _) (rp R) (.cl f t') x _ E
    |false=>exact PR.mono (BI R) (mo R) (.cl f t') x _ E
   ·exact(af e).elim
  ·exact(af e).elim
 ·rename_i gg cs _ _ _ _ _ _ _
  split at e
  ·rename_i E;simp only[ah]at E;have VG:=toBeq E.1;obtain⟨vs,q,p,W⟩:=VR.list M
   cases mark with
   |true=>
    obtain⟨V,h3,g3,L3,e,R3,Le3,hg3,ahF⟩:=cW _ _ h g _ _ _ R q e
    split at e
    ·rename_i x B;have d:=da E.2 ahF B;exact⟨x,h3,g3,L3,e,R3,Le3,hg3,qf.list VG p W (PR.mono (bQ.refl _ _) (rp R3) _ _ _ d)⟩
    ·exact(af e).elim
   |false=>
    obtain⟨V,D,e,z⟩:=mi R _ _ _ _ _ q e
    split at e
    ·rename_i x B;have d:=da E.2 z B;exact⟨x,h,g,D,e,R,Le.refl _ _ _ _,Fz.refl _ _,qf.list VG p W (PR.mono (w9 R) (mo R) _ _ _ d)⟩
    ·exact(af e).elim
  ·exact(af e).elim
 ·exact(af e).elim
theorem BJ(mark:Bool):∀(ps:List Ty) (as:List A) (vs:List Value) (h:aP) (g:G) (L:Log) (k:(g6 ps).den→HM) (c:A×aP×Log),HR w0 Z0 Zp h g w→
  bY (fun b B=>∃u,B=[u]∧AR w w0.heap.size Zp h g b u) as vs→(S1 mark ps as k).eval next h L=some c→
  ∃x j g1 n,(k x).eval next j n=some c∧HR w0 Z0 Zp j g1 w∧Le Zp h g w j g1 w∧Fz h g j g1∧qg w (if mark=true then g1.Z else LZ w) (LZ w) ps x vs
 |[],as,vs,h,g,L,k,c,R,q,e=>by
  cases as with
  |nil=>exact⟨(),h,g,L,e,R,Le.refl _ _ _ _,Fz.refl _ _,q⟩
  |cons _ _=>exact(af e).elim
 |[τ],as,vs,h,g,L,k,c,R,q,e=>by
  cases as with
  |nil=>exact(af e).elim
  |cons a as=>
   cases as with
   |cons _ _=>exact(af e).elim
   |nil=>
    obtain⟨B,d,F,⟨u,H,p⟩,t⟩:=q;simp only[bY]at t;subst t;subst H;obtain⟨x,j,g1,n,I,E,i,l,D⟩:=MU mark R p e;exact⟨x,j,g1,n,I,E,i,l,u,by simpa using F,qf.mono (bQ.refl _ _) (MT mark) D⟩
 |τ::σ::ps,as,vs,h,g,L,k,c,R,q,e=>by
  cases as with
  |nil=>exact(af e).elim
  |cons a as=>
   obtain⟨B,d,F,⟨u,H,p⟩,t⟩:=q;subst H;obtain⟨x,j,g1,n,I,E,i,l,D⟩:=MU mark R p e;obtain⟨y,Q,O,K,N,M,o,J,S⟩:=BJ mark (σ::ps) as d j g1 n _ c E (bY.mono (fun b B ⟨u,e,p⟩=>⟨u,e,AR.mono i _ _ p⟩) _ _ t) I;refine⟨(x,y),Q,O,K,N,M,i.trans o,l.trans J,u,d,by simpa using F,?_,S⟩
   cases mark with
   |true=>exact qf.mono o.z (MT true) D
   |false=>exact qf.mono (bQ.refl _ _) (MT false) D
theorem Zy{a:List Nat}{d:Array Value}(x:bY (fun o c=>g.al o∧∃u,c=[u]∧Cg u∧(look .dead o h≠.dead→∃b,g.hm o=some b∧u= .pointer (some ⟨b,0,none⟩))) a d.toList):
  bY (fun b c=>∃u,c=[u]∧AR w base Zp h g b u) (acj a) d.toList:=by
 have:∀(a:List Nat) (j:List Value),bY (fun o c=>g.al o∧∃u,c=[u]∧Cg u∧(look .dead o h≠.dead→∃b,g.hm o=some b∧u= .pointer (some ⟨b,0,none⟩))) a j→
   bY (fun b c=>∃u,c=[u]∧AR w base Zp h g b u) (a.map fun o=>A.v false [.ptr o 0]) j:=by
  intro a
  induction a with
  |nil=>intro j h;exact h
  |cons o a z=>
   intro j y;obtain⟨c,i,n,⟨k,u,p,l,t⟩,q⟩:=y;exact⟨c,i,n,⟨u,p,AR.jU ⟨k,l,t⟩⟩,z i q⟩
 exact this a _ x
theorem RB{f:FuncId}{fn:Func}(d:P.funcs[f]? =some fn)(c:(fn.name== "runtime.NumGoroutine")=false)(a:fn.body.isNone=false)(b:Array Value):(callFunc f b).run P w= .ok (.enter f b) w:=by
 have j:¬ fn.name= "runtime.NumGoroutine":=by simpa using c
 have i:¬ fn.body=none:=by intro h;rw[h]at a;cases a
 simp[callFunc,program,Sem.run,d,j,i]
theorem HR.abd(R:HR w0 Z0 Zp h g w)(U:w.Extends w'){new:Nat}(hn:¬ g.al new){size len:Nat}{ob:Option Nat}{v:Value}(ho:Zu w w' size len ob v):
  let g':G:={ al:=fun o=>g.al o∨o=new,Z:=Zt g.Z w w' ob (len*size),hm:=VB g.hm new ob,lo:=VB g.lo new (len*size),pm:=g.pm }
  HR w0 Z0 Zp ((new,.tok)::h) g' w'∧Le Zp h g w ((new,.tok)::h) g' w'∧aeE w' w0.heap.size g' new size len v:=by
 intro g';have hsz:=U.size;have N:∀o,o≠new→look .dead o ((new,Ob.tok)::h)=look .dead o h:=fun o a=>by rw[aG,if_neg (Ne.symm a)]
 have V:look .dead new ((new,Ob.tok)::h)= .tok:=by rw[aG,if_pos rfl]
 have D:∀o,o≠new→g'.hm o=g.hm o:=fun o a=>gb _ _ a;have E:g'.hm new=ob:=kQ _ _ _;have Q:∀b,ob=some b→w.heap.size≤b∧b<w'.heap.size:=by
  intro b hb;rcases ho with⟨y,_⟩|⟨b',Y,cur,e0,y,_,h3,_,_,_,h7⟩
  ·rw[y]at hb;cases hb
  ·rw[y]at hb;cases hb;exact⟨h7,(Array.getElem?_eq_some_iff.1 h3).1⟩
 have L:Le Zp h g w ((new,.tok)::h) g' w':=by
  refine⟨fun o O=> .inl O,fun c i x=>⟨.inl x,U.cell _ (R.BE c i x)⟩,R.zpk (fun c j _=>U.block c (bi j R.eL)) R.zp,fun o O=> ?_,fun o O _=> ?_,fun o O W=> ?_,fun _ _ _ h=>h⟩
  ·rw[N o (fun e=>hn (e▸O))];exact Ob.to.refl _
  ·exact D o (fun e=>hn (e▸O))
  ·rw[N o (fun e=>hn (e▸O))]at W;exact⟨gb _ _ (fun e=>hn (e▸O)),fun c j=>U.block c (R.home o c (by rw[W];simp) j).2⟩
 refine⟨⟨R.ext.trans U,fun o=> ?_,fun o O=> ?_,fun o c hd j=> ?_,fun o p c hd S j J=> ?_,fun o c i M j x=> ?_,fun o c i W j x=> ?_,fun c i x=> ?_,fun c i j x=> ?_,fun c i x=> .inl (R.z0 c i x),R.zp,R.gh.keep L (fun c wr K H j=> ?_) rfl (fun c id b T=>U.block b (R.gh.lt c id b T)) hsz (fun c id b i T x=> ?_) (fun c id b o T hd j=> ?_)⟩,L,?_⟩
 ·by_cases a:o=new
  ·subst a;rw[V];trivial
  ·rw[N o a];exact EO.mono L (.inr (D o a)) (fun hd c j=>U.block c (R.home o c hd j).2) (R.ob o)
 ·have a:o≠new:=fun e=>O (.inr e);rw[N o a];exact R.dead o fun h=>O (.inl h)
 ·by_cases a:o=new
  ·subst a;rw[E]at j;have:=Q c j;have:=R.eL;omega
  ·rw[N o a]at hd;rw[D o a]at j;have:=R.home o c hd j;exact⟨this.1,by omega⟩
 ·by_cases y:o=new
  ·by_cases I:p=new
   ·rw[y,I]
   ·subst y;rw[E]at j;rw[N p I]at S;rw[D p I]at J;have:=Q c j;have:=R.home p c S J;omega
  ·by_cases I:p=new
   ·subst I;rw[E]at J;rw[N o y]at hd;rw[D o y]at j;have:=Q c J;have:=R.home o c hd j;omega
   ·rw[N o y]at hd;rw[D o y]at j;rw[N p I]at S;rw[D p I]at J;exact R.iW o p c hd S j J
 ·by_cases y:o=new
  ·subst y;rw[V]at M;simp[Ob.open?]at M
  ·rw[N o y]at M;rw[D o y]at j;have Rp:look .dead o h≠.dead:=by intro hd;rw[hd]at M;simp[Ob.open?]at M
   rcases x with x |⟨e,_⟩
   ·exact R.gI o c i M j x
   ·have:=R.home o c Rp j;omega
 ·by_cases y:o=new
  ·subst y;rw[E]at j;show i<VB g.lo o (len*size) o;rw[kQ];rcases x with x |⟨_,_,x⟩
   ·have:=Q c j;have:=R.BE c i x;omega
   ·exact x j
  ·rw[N o y]at W;rw[D o y]at j;show i<VB g.lo new (len*size) o;rw[gb _ _ y];rcases x with x |⟨e,_⟩
   ·exact R.BZ o c i W j x
   ·have:=R.home o c (by rw[W];simp) j;omega
 ·rcases x with x |⟨_,I,_⟩
  ·have:=R.BE c i x;omega
  ·exact I
 ·rcases x with x |⟨y,_⟩
  ·exact R.zk c i j x
  ·have:=R.eL;omega
 ·by_cases a:c=new
  ·subst a;rw[V]at j;cases j
  ·rw[N c a]at j;exact j
 ·rcases x with x |⟨y,_⟩
  ·exact R.gh.gI c id b i T x
  ·have:=R.gh.lt c id b T;omega
 ·by_cases a:o=new
  ·subst a;rw[E]at j;have:=Q b j;have:=R.gh.lt c id b T;omega
  ·rw[N o a]at hd;rw[D o a]at j;exact R.gh.loc c id b o T hd j
 ·have hlo:g'.lo new=len*size:=kQ _ _ _;rcases ho with⟨y,I,h3⟩|⟨b,Y,cur,e0,y,I,h3,h4,h5,h6,h7⟩
  ·exact .inl ⟨E.trans y,I,h3⟩
  ·have:=R.eL;exact .inr ⟨b,Y,cur,e0,E.trans y,I,h3,h4,h5,h6,by omega,hlo⟩
theorem Zz{Z o:bj}{e:Ty}(J:e.flat=true){l:List e.den}{v:Value}{R:Option Nat}(M:PR w' Z aI (.sl e) l [v])(K:Zu w w' e.size (ac l) R v)(Q:∀b i,w.heap.size≤b→b<w'.heap.size→i<ac l*e.size→o b i):PR w' o aI (.sl e) l [v]:=by
 obtain⟨base,c,y,a,B,q,D⟩:=M;refine⟨base,c,y,a,B,bY.mono (fun x E O=>PR.flat e x E J O) _ _ q,fun n=> ?_⟩;obtain⟨b,S,rfl,I⟩:=D n;have N:=bY.length (PR.k e) l y q;rcases K with⟨_,d,_⟩|⟨T,p,z,U,_,d,F,_,_,_,H⟩
 ·rw[d]at a;simp at a
 ·rw[d]at a;simp only[List.cons.injEq,Value.slice.injEq,Option.some.injEq,Addr.mk.injEq,and_true]at a;obtain⟨⟨rfl,rfl⟩,_⟩:=a;refine⟨_,_,rfl,fun j u t=>⟨(I j u t).1,Q _ _ H (Array.getElem?_eq_some_iff.1 F).1 ?_⟩⟩;have:=(List.getElem?_eq_some_iff.1 t).1;omega
def uK(w:World)(base:Nat)(Zp:bj)(h:aP)(g:G):(ps:List VT)→(pR ps).den→List Value→Prop
 |[],_,b=>b=[]
 |[V],x,b=>∃v,b=[v]∧AR w base Zp h g (vF V x) v
 |V::U::r,x,b=>∃v a,b=v::a∧AR w base Zp h g (vF V x.1) v∧uK w base Zp h g (U::r) x.2 a
structure cL (P:Program) (f:FuncId) (E:cT):Prop where
 fn:∃fn,P.funcs[f]? =some fn∧(fn.name== "runtime.NumGoroutine")=false∧fn.body.isNone=false
 ok:E.rs.all VT.ok=true
 calls:∀(w0:W0) (Z0 Zp:bj) (g:G) (x:(pR E.ps).den) (hs:ej E.ws) (ho:ej E.os) (r:(pR E.rs).den) (hs':ej E.ws) (args:List Value),
  HR w0 Z0 Zp (cg true E.ws hs++cg false E.os ho) g w0.toWorld→(∀p,g.al p→p∈(E.ws++E.os).map (·.1))→uK w0.toWorld w0.heap.size Zp (cg true E.ws hs++cg false E.os ho) g E.ps x args→E.F x hs ho=some (r,hs')→
  Calls P f args.toArray w0.toWorld fun e w'=>∃v g',e= .returned v∧HR w0 Z0 Zp (cg true E.ws hs') g' w'∧AR w' w0.heap.size Zp (cg true E.ws hs') g' (tm E.rs r) v
end
section
variable {P:Program} {w0:W0} {w w':World} {Z0 Zp Hm:bj} {h h':aP} {g g':G} {new next base base':Nat} {r:A} {L L':Log} {X:Cx}
theorem VT.pe(K:bQ w w' g.Z g'.Z)(I:∀c id e,g.pm c id=some e→g'.pm c id=some e):∀(V:VT) (x:V.den) (vs:List Value),V.ok=true→cw w base Zp h g (V.cells x) vs→cw w' base' Hm h' g' (V.cells x) vs
 |.data τ,x,vs,E,j=>cw.nQ τ x vs (PR.bH τ x vs E (PR.mono (Zp:=aI) (Hm:=aI) K (fun _ _ h=>h.elim) τ x vs (PR.bH τ x vs E (Ty.tn E j))))
 |.gp c M,none,vs,_,j=>j
 |.gp c M,some id,vs,_,⟨v,i,e,⟨q,p,D⟩,H⟩=>⟨v,i,e,⟨q,I _ _ _ p,D⟩,H⟩
 |.gs c,none,vs,_,j=>j
 |.gs c,some (id,a,n),vs,_,⟨v,i,e,⟨b,k,J,O,o,p,D⟩,H⟩=>⟨v,i,e,⟨b,k,J,O,o,I _ _ _ p,D⟩,H⟩
 |.gm c,none,vs,_,j=>j
 |.gm c,some id,vs,_,⟨v,i,e,⟨q,p,D⟩,H⟩=>⟨v,i,e,⟨q,I _ _ _ p,D⟩,H⟩
 |.cl _ _ _,none,vs,_,j=>j
 |.cl _ _ _,some q,vs,_,⟨v,i,e,⟨a,b,p,D,H⟩,N⟩=>⟨v,i,e,⟨a,b,p,qe.mono I _ _ _ D,qe.mono I _ _ _ H⟩,N⟩
 |.pair a b,x,vs,E,j=>by
  have E:(a.ok&&b.ok)=true:=E;rw[ah]at E;obtain⟨us,rs,e,p,D⟩:=cw.split (a.cells x.1) (b.cells x.2) vs j;rw[e];exact cw.append _ _ _ _ (VT.pe K I a _ _ E.1 p) (VT.pe K I b _ _ E.2 D)
 |.unit,_,_,_,j=>j
theorem VT.L0(j:bQ w w' g.Z g'.Z)(D:∀c id e,g.pm c id=some e→g'.pm c id=some e){V:VT}{x:V.den}{a:Bool}{v:Value}(p:V.ok=true)(i:VR w base Zp h g a (V.cells x) v):VR w' base' Hm h' g' a (V.cells x) v:=by
 cases a with
 |true=>obtain⟨vs,e,E⟩:=i;exact⟨vs,e,VT.pe j D _ _ _ p E⟩
 |false=>exact VT.pe j D _ _ _ p i
theorem mh.move(S:bQ w w' g.Z g'.Z)(H:∀c id e,g.pm c id=some e→g'.pm c id=some e){c id:Nat}(hb:∀e,g.pm c id=some e→w'.heap[e.1]? =w.heap[e.1]?):∀(K:GK) (x:K.me),K.ok=true→mh w base Zp h g c id K x→mh w' base' Hm h' g' c id K x
 |.st V,_,N,⟨I,b,i,E,Q,a,J,M⟩=>⟨I,b,i,E,Q,H _ _ _ a,(hb _ a).trans J,VT.pe S H V _ _ N M⟩
 |.bf V,_,N,⟨I,b,k,i,E,Q,a,J,M,O,W,Y⟩=>⟨I,b,k,i,E,Q,H _ _ _ a,(hb _ a).trans J,M,O,W,bY.mono (fun x es hx=>VT.pe S H V x es N hx) _ _ Y⟩
 |.mp k V,_,N,⟨I,R,b,es,D,a,J,M,O⟩=>⟨I,R,b,es,D,H _ _ _ a,(hb _ a).trans J,M,fun j p e U T=>⟨(O j p e U T).1,VT.L0 S H N (O j p e U T).2⟩⟩
def dH(wr:Bool):(l:List (Nat×GK))→ej l→Nat→Option Ob
 |[],_,_=>none
 |(c,K)::r,x,p=>if c=p then some (.gh wr K x.1)else dH wr r x.2 p
theorem kS(wr:Bool)(p:Nat)(T:aP):∀(l:List (Nat×GK)) (x:ej l),look .dead p (cg wr l x++T)=(dH wr l x p).getD (look .dead p T)
 |[],_=>rfl
 |(c,K)::r,x=>by
  show look .dead p ((c,.gh wr K x.1)::(cg wr r x.2++T))=_;rw[aG];unfold dH
  split
  ·rfl
  ·exact kS wr p T r x.2
theorem lN{wr:Bool}{p:Nat}{b:Ob}:∀(l:List (Nat×GK)) (x:ej l),dH wr l x p=some b→p∈l.map (·.1)∧∃K H,b= .gh wr K H
 |[],_,h=>by cases h
 |(c,K)::r,x,h=>by
  unfold dH at h
  split at h
  ·rename_i i;cases h;exact⟨by simp[i],K,x.1,rfl⟩
  ·obtain⟨a,d⟩:=lN r x.2 h;exact⟨by simp at a ⊢;exact .inr a,d⟩
theorem Hz{wr:Bool}{p:Nat}:∀(l:List (Nat×GK)) (x:ej l),p∈l.map (·.1)→∃K H,dH wr l x p=some (.gh wr K H)
 |[],_,h=>by simp at h
 |(c,K)::r,x,h=>by
  unfold dH
  split
  ·exact⟨K,x.1,rfl⟩
  ·rename_i a;refine Hz r x.2 ?_;simp only[bo,List.mem_cons]at h;rcases h with h |h
   ·exact absurd h.symm a
   ·exact h
theorem MV{wr:Bool}{p:Nat}{l:List (Nat×GK)}{x:ej l}(h:p∉l.map (·.1)):dH wr l x p=none:=by
 cases a:dH wr l x p with
 |none=>rfl
 |some b=>exact absurd (lN l x a).1 h
theorem HA{wr:Bool}{d:A×aP×Log}:∀(l:List (Nat×GK)) (k:ej l→HM) (L:Log),(aaO wr l k).eval next h L=some d→
  ∃y j,(k y).eval next h j=some d∧∀p K H,dH wr l y p=some (.gh wr K H)→∃a,look .dead p h= .gh a K H∧(wr=true→a=true)
 |[],k,L,e=>⟨(),L,e,fun p K H h=>by cases h⟩
 |(c,K)::r,k,L,e=>by
  have e:=bq e
  split at e
  ·rename_i a t H z
   split at e
   ·rename_i D u b;obtain⟨x,rfl⟩:=dJ u;subst x;obtain⟨y,j,e,B⟩:=HA r _ _ e;refine⟨(H,y),j,e,fun p o H1 q=> ?_⟩;have i:(if c=p then some (Ob.gh wr t H)else dH wr r y p)=some (.gh wr o H1):=q;clear q
    by_cases n:c=p
    ·rw[if_pos n]at i;subst n
     cases i;exact⟨a,z,fun h=>by rw[h]at b;simpa using b⟩
    ·rw[if_neg n]at i;exact B p o H1 i
   ·exact(af e).elim
  ·exact(af e).elim
def pU:(l:List (Nat×GK))→ej l→aP→aP
 |[],_,h=>h
 |(c,K)::r,x,h=>pU r x.2 ((c,.gh true K x.1)::h)
theorem Jk{a:A×aP×Log}{k:HM}:∀(l:List (Nat×GK)) (x:ej l) (h:aP) (L:Log),(Vw l x k).eval next h L=some a→∃b,k.eval next (pU l x h) b=some a
 |[],_,h,L,e=>⟨L,e⟩
 |(c,K)::r,x,h,L,e=>Jk r x.2 _ _ (cn e)
theorem Jl{p:Nat}:∀(l:List (Nat×GK)) (x:ej l) (h:aP),EG (l.map (·.1))=true→look .dead p (pU l x h)=(dH true l x p).getD (look .dead p h)
 |[],_,h,_=>rfl
 |(c,K)::r,x,h,a=>by
  simp only[bo,EG,ah,cd]at a;unfold pU dH;rw[Jl r x.2 _ a.2,aG]
  split
  ·rename_i b;subst b;rw[MV (by simpa using a.1)];rfl
  ·rfl
theorem MW:∀(a b:List Nat),EG (a++b)=true→EG a=true
 |[],_,_=>rfl
 |c::a,b,h=>by
  simp only[cK,EG,ah,cd]at h ⊢;refine⟨?_,MW a b h.2⟩;have:=h.1;simp at this ⊢;exact this.1
def ZA(w:World)(h:aP)(g:G)(ws os:List (Nat×GK))(yo:ej os):W0:=
 { toWorld:=w,B:=fun b=>∃c id,c∈ws.map (·.1)∧GL h g c id b,pm:=g.pm,ro:=fun c=>match dH false os yo c with |some (.gh _ K H)=>some ⟨K,H⟩|_=>none,ws:=fun c=>c∈ws.map (·.1) }
def Tz(g:G)(ws os:List (Nat×GK)):G:=⟨fun o=>o∈(ws++os).map (·.1),g.Z,fun _=>none,fun _=>0,g.pm⟩
section
variable {ws os:List (Nat×GK)} {y:ej ws} {yo:ej os}
theorem Qp(p:Nat):look .dead p (cg true ws y++cg false os yo)=(dH true ws y p).getD ((dH false os yo p).getD .dead):=by
 have:=kS false p [] os yo;rw[ab1]at this;rw[kS,this];rfl
theorem HR.adf(R:HR w0 Z0 Zp h g w)(hy:∀p K H,dH true ws y p=some (.gh true K H)→look .dead p h= .gh true K H)(T:∀p K H,dH false os yo p=some (.gh false K H)→∃wr,look .dead p h= .gh wr K H):
  HR (ZA w h g ws os yo) g.Z (Kb h g w) (cg true ws y++cg false os yo) (Tz g ws os) w:=by
 have j:∀c wr K H,look .dead c (cg true ws y++cg false os yo)= .gh wr K H→(∃D,look .dead c h= .gh D K H)∧(wr=true→c∈ws.map (·.1)∧look .dead c h= .gh true K H)∧(wr=false→dH false os yo c=some (.gh false K H)):=by
  intro c wr K H J;rw[Qp]at J
  cases a:dH true ws y c with
  |some ob=>
   rw[a]at J;obtain⟨hm,Q,H1,rfl⟩:=lN ws y a
   cases J;have:=hy c K H a;exact⟨⟨_,this⟩,fun _=>⟨hm,this⟩,fun h=>Bool.noConfusion h⟩
  |none=>
   rw[a]at J
   cases E:dH false os yo c with
   |some ob=>
    rw[E]at J;obtain⟨hm,Q,H1,rfl⟩:=lN os yo E
    cases J;exact⟨T c K H E,fun h=>Bool.noConfusion h,fun _=>rfl⟩
   |none=>rw[E]at J;cases J
 have O:∀o,(∃wr K H,look .dead o (cg true ws y++cg false os yo)= .gh wr K H)∨look .dead o (cg true ws y++cg false os yo)= .dead:=by
  intro o;rw[Qp]
  cases a:dH true ws y o with
  |some ob=>obtain⟨hm,Q,H1,rfl⟩:=lN ws y a;exact .inl ⟨_,_,_,rfl⟩
  |none=>
   cases E:dH false os yo o with
   |some ob=>obtain⟨hm,Q,H1,rfl⟩:=lN os yo E;exact .inl ⟨_,_,_,rfl⟩
   |none=>exact .inr rfl
 have N:∀c id b,GL (cg true ws y++cg false os yo) (Tz g ws os) c id b→GL h g c id b:=by
  rintro c id b ⟨wr,K,H,x,e,a,E,S,Y⟩;obtain⟨⟨D,I⟩,_⟩:=j c wr K H a;exact⟨D,K,H,x,e,I,E,S,Y⟩
 refine⟨⟨rfl,rfl,rfl,av _,fun _ _ _=>rfl⟩,fun o=> ?_,fun o ha=> ?_,fun o b _ hb=>(by cases hb),fun o p b _ _ hb _=>(by cases hb),fun o b i _ hb=>(by cases hb),fun o b i _ hb=>(by cases hb),R.BE,fun b i _ M=> .inl M,fun b i M=>M,fun b i M=>⟨M.1,fun⟨c,id,_,hB⟩=>M.2 c id hB⟩,
  ⟨fun c wr K H id x a E=> ?_,fun c wr K H id a E=> ?_,fun c id b a=>R.gh.lt c id b (N c id b a),fun c K H id x e a E S=> ?_,fun c id W U b a E=>R.gh.iW c id W U b (N _ _ _ a) (N _ _ _ E),fun c id b i a=>R.gh.gI c id b i (N _ _ _ a),fun c id b o _ _ hb=>(by cases hb),fun c wr V H id e a E=> ?_,fun c id e a=>a,fun c K H a=> ?_,fun c id b i a M=>M.2 c id (N _ _ _ a),fun c wr K H a=> ?_,fun c K H a=>((j c true K H a).2.1 rfl).1,fun c id e a=> .inl a⟩⟩
 ·rcases O o with⟨wr,K,H,a⟩|a
  ·rw[a];rfl
  ·rw[a];trivial
 ·rcases O o with⟨wr,K,H,a⟩|a
  ·exfalso;apply ha;show o∈(ws++os).map (·.1);rw[acl,List.mem_append]
   cases wr with
   |true=>exact .inl ((j o true K H a).2.1 rfl).1
   |false=>exact .inr (lN os yo ((j o false K H a).2.2 rfl)).1
  ·exact a
 ·obtain⟨⟨D,I⟩,_⟩:=j c wr K H a;exact mh.move (w':=w) (g:=g) (g':=Tz g ws os) (fun _ _ h=>⟨h,rfl⟩) (fun _ _ _ h=>h) (fun _ _=>rfl) K x (R.gh.YT c D K H I) (R.gh.me c D K H id x I E)
 ·obtain⟨⟨D,I⟩,_⟩:=j c wr K H a;exact R.gh.fresh c D K H id I E
 ·obtain⟨_,I,_⟩:=j c true K H a;exact .inr ⟨c,id,(I rfl).1,true,K,H,x,e,(I rfl).2,E,S,rfl⟩
 ·obtain⟨⟨D,I⟩,_⟩:=j c wr _ H a;exact R.gh.psz c D V H id e I E
 ·have I:=(j c false K H a).2.2 rfl;show(match dH false os yo c with |some (.gh _ K H)=>some (⟨K,H⟩:Σ K:GK,List (Option K.me))|_=>none)=_;rw[I]
 ·obtain⟨⟨D,I⟩,_⟩:=j c wr K H a;exact R.gh.YT c D K H I
theorem HR.abe(R:HR w0 Z0 Zp h g w)(hd:EG (ws.map (·.1))=true)(hy:∀p K H,dH true ws y p=some (.gh true K H)→look .dead p h= .gh true K H){Y:ej ws}{g2:G}(U:HR (ZA w h g ws os yo) g.Z (Kb h g w) (cg true ws Y) g2 w')
  (hk:∀p K H K' N,dH true ws y p=some (.gh true K H)→dH true ws Y p=some (.gh true K' N)→K=K') {g':G} (hg:g'={ g with Z:=g2.Z,pm:=g2.pm }):
  HR w0 Z0 Zp (pU ws Y h) g' w'∧Le Zp h g w (pU ws Y h) g' w':=by
 subst hg;have lk:∀p,look .dead p (pU ws Y h)=(dH true ws Y p).getD (look .dead p h):=fun p=>Jl ws Y h hd;have lk2:∀p,look .dead p (cg true ws Y)=(dH true ws Y p).getD .dead:=fun p=>by
  have:=kS true p [] ws Y;rwa[ab1]at this
 have j:∀p,p∈ws.map (·.1)→∃K H N,look .dead p (pU ws Y h)= .gh true K N∧look .dead p (cg true ws Y)= .gh true K N∧look .dead p h= .gh true K H:=fun p hp=>by
  obtain⟨K',N,a⟩:=Hz (wr:=true) ws Y hp;obtain⟨K,H,M⟩:=Hz (wr:=true) ws y hp;have:=hk p K H K' N M a;subst this;exact⟨K,H,N,by rw[lk,a];rfl,by rw[lk2,a];rfl,hy p K H M⟩
 have I:∀p,p∉ws.map (·.1)→look .dead p (pU ws Y h)=look .dead p h:=fun p hp=>by rw[lk,MV hp];rfl
 have adg:∀p,p∈ws.map (·.1)→g.hm p=none:=fun p hp=>by
  obtain⟨K,H,N,_,_,J⟩:=j p hp;have:=R.ob p;rw[J]at this;exact this
 have O:∀p,look .dead p (pU ws Y h)≠.dead→look .dead p h≠.dead:=fun p hp=>by
  by_cases hm:p∈ws.map (·.1)
  ·obtain⟨K,H,N,_,_,J⟩:=j p hm;rw[J];simp
  ·rw[←I p hm];exact hp
 have hs:w.heap.size≤w'.heap.size:=U.ext.size;have ZB:∀b,b<w.heap.size→(∀c id,c∈ws.map (·.1)→¬ GL h g c id b)→w'.heap[b]? =w.heap[b]? :=fun b hb hn=>U.ext.block b hb fun⟨c,id,hc,T⟩=>hn c id hc T
 have act:∀o b,look .dead o h≠.dead→g.hm o=some b→w'.heap[b]? =w.heap[b]? :=fun o b hd hb=>ZB b (R.home o b hd hb).2 fun c id _ T=>R.gh.loc c id b o T hd hb
 have ahG:∀c id b,c∉ws.map (·.1)→GL h g c id b→w'.heap[b]? =w.heap[b]? :=fun c id b hc T=>ZB b (R.gh.lt c id b T) fun c2 id2 hc2 hG2=>hc ((R.gh.iW _ _ _ _ _ T hG2).1▸hc2)
 have hzk:bQ w w' g.Z g2.Z:=fun b i Q=>⟨U.z0 b i Q,aL (ZB b (R.BE b i Q) fun c id _ T=>R.gh.gI c id b i T Q)⟩;have YU:∀b i,g2.Z b i→b<w.heap.size→g.Z b i∨∃c id,c∈ws.map (·.1)∧GL h g c id b:=fun b i Q hb=>U.zk b i hb Q;have hpo:∀c id e,g.pm c id=some e→g2.pm c id=some e:=U.gh.old;have W7:∀c id e,g2.pm c id=some e→g.pm c id=some e∨c∈ws.map (·.1):=U.gh.new;have L:Le Zp h g w (pU ws Y h) { g with Z:=g2.Z,pm:=g2.pm } w':=by
  refine⟨fun o ha=>ha,hzk,R.zpk (fun b hb hB=>ZB b (bi hb R.eL) fun c id hc T=> ?_) R.zp,fun p _=> ?_,fun _ _ _=>rfl,fun p _ ht=>⟨rfl,fun b hb=> ?_⟩,hpo⟩
  ·obtain⟨K,H,N,_,_,J⟩:=j c hc;obtain⟨wr,K1,H1,x,e,h4,D,h6,h7⟩:=T;rw[J]at h4;cases h4;rcases R.gh.own c _ _ id x e J D h6 with h8 |h8
   ·omega
   ·exact hB (h7▸h8)
  ·by_cases hm:p∈ws.map (·.1)
   ·obtain⟨K,H,N,a,_,J⟩:=j p hm;rw[a,J];exact .inr (.inr (.inr (.inr (.inr (.inl ⟨_,_,_,rfl,rfl⟩)))))
   ·rw[I p hm];exact Ob.to.refl _
  ·have hm:p∉ws.map (·.1):=fun hm=>by
    obtain⟨K,H,N,a,_,J⟩:=j p hm;rw[a]at ht;cases ht
   rw[I p hm]at ht;exact act p b (by rw[ht];simp) hb
 have hGL:∀c id b,GL (pU ws Y h) { g with Z:=g2.Z,pm:=g2.pm } c id b→(c∉ws.map (·.1)∧GL h g c id b)∨(c∈ws.map (·.1)∧GL (cg true ws Y) g2 c id b∧(w.heap.size≤b∨∃c2 id2,c2∈ws.map (·.1)∧GL h g c2 id2 b)):=by
  rintro c id b ⟨wr,K1,H1,x,e,a,M,J,h4⟩
  by_cases hm:c∈ws.map (·.1)
  ·obtain⟨K,H,N,E,S,k3⟩:=j c hm;rw[E]at a;cases a;refine .inr ⟨hm,⟨true,_,_,x,e,S,M,J,h4⟩,?_⟩;rcases U.gh.own c _ _ id x e S M J with D |D
   ·exact .inl (h4▸D)
   ·exact .inr (h4▸D)
  ·rw[I c hm]at a;rcases W7 c id e J with D |D
   ·exact .inl ⟨hm,wr,K1,H1,x,e,a,M,D,h4⟩
   ·exact absurd D hm
 refine⟨⟨⟨U.ext.os.trans R.ext.os,U.ext.tape.trans R.ext.tape,U.ext.output.trans R.ext.output,Nat.le_trans R.ext.size hs,fun i hi hB=> ?_⟩,fun p=> ?_,fun p ha=> ?_,fun p b hd hb=> ?_,fun p q b hd hd' hb hb'=>R.iW p q b (O p hd) (O q hd') hb hb',fun p b i hp hb Q=> ?_,fun p b i ht hb Q=> ?_,fun b i Q=>U.BE b i Q,fun b i hb Q=> ?_,fun b i Q=>U.z0 b i (R.z0 b i Q),R.zp,?_⟩,L⟩
 ·refine(ZB i (bi hi R.eL) fun c id hc T=> ?_).trans (R.ext.block i hi hB);obtain⟨K,H,N,_,_,J⟩:=j c hc;obtain⟨wr,K1,H1,x,e,h4,D,h6,h7⟩:=T;rw[J]at h4;cases h4;rcases R.gh.own c _ _ id x e J D h6 with h8 |h8
  ·omega
  ·exact hB (h7▸h8)
 ·by_cases hm:p∈ws.map (·.1)
  ·obtain⟨K,H,N,a,_,J⟩:=j p hm;rw[a];exact adg p hm
  ·rw[I p hm];exact EO.mono L (.inr rfl) (fun hd b hb=>act p b hd hb) (R.ob p)
 ·have hm:p∉ws.map (·.1):=fun hm=>by
   obtain⟨K,H,N,_,_,J⟩:=j p hm;exact ha (R.alive (by rw[J];simp))
  rw[I p hm];exact R.dead p ha
 ·have:=R.home p b (O p hd) hb;exact⟨this.1,by omega⟩
 ·have hm:p∉ws.map (·.1):=fun hm=>by have:=adg p hm;rw[this]at hb;cases hb
  rw[I p hm]at hp;have hdd:look .dead p h≠.dead:=by intro hd;rw[hd]at hp;cases hp
  rcases YU b i Q (R.home p b hdd hb).2 with a |⟨c,id,_,T⟩
  ·exact R.gI p b i hp hb a
  ·exact R.gh.loc c id b p T hdd hb
 ·have hm:p∉ws.map (·.1):=fun hm=>by have:=adg p hm;rw[this]at hb;cases hb
  rw[I p hm]at ht;have hdd:look .dead p h≠.dead:=by rw[ht];simp
  rcases YU b i Q (R.home p b hdd hb).2 with a |⟨c,id,_,T⟩
  ·exact R.BZ p b i ht hb a
  ·exact(R.gh.loc c id b p T hdd hb).elim
 ·have S0:b<w.heap.size:=bi hb R.eL;rcases YU b i Q S0 with a |⟨c,id,hc,T⟩
  ·exact R.zk b i hb a
  ·obtain⟨K,H,N,_,_,J⟩:=j c hc;obtain⟨wr,K1,H1,x,e,h4,D,h6,h7⟩:=T;rw[J]at h4;cases h4;rcases R.gh.own c _ _ id x e J D h6 with h8 |h8
   ·omega
   ·exact .inr (h7▸h8)
 ·refine⟨fun c wr K1 H1 id x a M=> ?_,fun c wr K1 H1 id a M=> ?_,fun c id b a=> ?_,fun c K1 H1 id x e a M J=> ?_,fun c1 id1 c2 id2 b a M=> ?_,fun c id b i a Q=> ?_,fun c id b o a hd hb=> ?_,fun c wr V H1 id e a M=> ?_,fun c id e a=>hpo _ _ _ (R.gh.old c id e a),fun c K1 H1 a=> ?_,fun c id b i a Q=> ?_,fun c wr K1 H1 a=> ?_,fun c K1 H1 a=> ?_,fun c id e a=> ?_⟩
  ·by_cases hm:c∈ws.map (·.1)
   ·obtain⟨K,H,N,E,S,k3⟩:=j c hm;rw[E]at a;cases a;exact mh.move (w':=w') (g:=g2) (g':={ g with Z:=g2.Z,pm:=g2.pm }) (fun _ _ h=>⟨h,rfl⟩) (fun _ _ _ h=>h) (fun _ _=>rfl) _ x (R.gh.YT c true _ H k3) (U.gh.me c true _ _ id x S M)
   ·rw[I c hm]at a;exact mh.mono L (fun e he=>ahG c id e.1 hm ⟨wr,K1,H1,x,e,a,M,he,rfl⟩) _ _ (R.gh.me c wr K1 H1 id x a M)
  ·by_cases hm:c∈ws.map (·.1)
   ·obtain⟨K,H,N,E,S,k3⟩:=j c hm;rw[E]at a;cases a;exact U.gh.fresh c true _ _ id S M
   ·rw[I c hm]at a;have J:=R.gh.fresh c wr K1 H1 id a M
    cases h4:g2.pm c id with
    |none=>rfl
    |some e=>
     rcases W7 c id e h4 with D |D
     ·rw[J]at D;cases D
     ·exact absurd D hm
  ·rcases hGL c id b a with⟨_,M⟩|⟨_,M,_⟩
   ·have:=R.gh.lt c id b M;omega
   ·exact U.gh.lt c id b M
  ·by_cases hm:c∈ws.map (·.1)
   ·obtain⟨K,H,N,E,S,k3⟩:=j c hm;rw[E]at a;cases a;rcases U.gh.own c _ _ id x e S M J with D |⟨c2,id2,hc2,T⟩
    ·have:=R.eL;have D:w.heap.size≤e.1:=D;exact .inl (by omega)
    ·obtain⟨K2,H2,H2',_,_,q3⟩:=j c2 hc2;obtain⟨wr,K3,H3,x3,e3,h6,h7,h8,h9⟩:=T;rw[q3]at h6;cases h6;rw[←h9];exact R.gh.own c2 _ _ id2 x3 e3 q3 h7 h8
   ·rw[I c hm]at a;rcases W7 c id e J with D |D
    ·exact R.gh.own c K1 H1 id x e a M D
    ·exact absurd D hm
  ·rcases hGL c1 id1 b a with⟨m1,E⟩|⟨m1,E,q1⟩
   ·rcases hGL c2 id2 b M with⟨m2,S⟩|⟨m2,S,q2⟩
    ·exact R.gh.iW _ _ _ _ _ E S
    ·exfalso;rcases q2 with q2 |⟨c3,id3,hc3,W⟩
     ·have:=R.gh.lt _ _ _ E;omega
     ·exact m1 ((R.gh.iW _ _ _ _ _ E W).1▸hc3)
   ·rcases hGL c2 id2 b M with⟨m2,S⟩|⟨m2,S,q2⟩
    ·exfalso;rcases q1 with q1 |⟨c3,id3,hc3,W⟩
     ·have:=R.gh.lt _ _ _ S;omega
     ·exact m2 ((R.gh.iW _ _ _ _ _ S W).1▸hc3)
    ·exact U.gh.iW _ _ _ _ _ E S
  ·rcases hGL c id b a with⟨m1,E⟩|⟨m1,E,q1⟩
   ·rcases YU b i Q (R.gh.lt _ _ _ E)with D |⟨c3,id3,hc3,W⟩
    ·exact R.gh.gI _ _ _ _ E D
    ·exact m1 ((R.gh.iW _ _ _ _ _ E W).1▸hc3)
   ·exact U.gh.gI _ _ _ _ E Q
  ·have hd:=O o hd;rcases hGL c id b a with⟨m1,E⟩|⟨m1,E,q1⟩
   ·exact R.gh.loc _ _ _ o E hd hb
   ·rcases q1 with q1 |⟨c3,id3,hc3,W⟩
    ·have:=(R.home o b hd hb).2;omega
    ·exact R.gh.loc _ _ _ o W hd hb
  ·by_cases hm:c∈ws.map (·.1)
   ·obtain⟨K,H,N,E,S,k3⟩:=j c hm;rw[E]at a;cases a;exact U.gh.psz c true _ _ id e S M
   ·rw[I c hm]at a;rcases W7 c id e M with D |D
    ·exact R.gh.psz c wr V H1 id e a D
    ·exact absurd D hm
  ·have hm:c∉ws.map (·.1):=fun hm=>by
    obtain⟨K,H,N,E,S,k3⟩:=j c hm;rw[E]at a;cases a
   rw[I c hm]at a;exact R.gh.ro c K1 H1 a
  ·rcases hGL c id b a with⟨m1,E⟩|⟨m1,E,q1⟩
   ·exact R.gh.zpx _ _ _ _ E Q
   ·rcases q1 with q1 |⟨c3,id3,hc3,W⟩
    ·have:=(R.zp b i Q).1;have:=R.eL;omega
    ·exact R.gh.zpx _ _ _ _ W Q
  ·by_cases hm:c∈ws.map (·.1)
   ·obtain⟨K,H,N,E,S,k3⟩:=j c hm;rw[E]at a;cases a;exact R.gh.YT c true _ H k3
   ·rw[I c hm]at a;exact R.gh.YT c wr K1 H1 a
  ·by_cases hm:c∈ws.map (·.1)
   ·obtain⟨K,H,N,E,S,k3⟩:=j c hm;exact R.gh.wsr c K H k3
   ·rw[I c hm]at a;exact R.gh.wsr c K1 H1 a
  ·rcases W7 c id e a with D |D
   ·exact R.gh.new c id e D
   ·obtain⟨K,H,N,E,S,k3⟩:=j c D;exact .inr (R.gh.wsr c K H k3)
end
end
end Go.Am
