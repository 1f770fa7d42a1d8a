import Derived.Test.YtpdgokkbljiccaaGreatA2
import Derived.Laws.StructEq
import Derived.Laws.BytesArg
import Derived.ChangeKeysEq
import Derived.Laws.Cover3
import Derived.MapKept
import Derived.WideKeyRuns
import Derived.LaidEqlPtr
set_option linter.unusedVariables false
set_option linter.unusedSimpArgs false
open Array renaming getElem?_eq_getElem→ag,getElem?_toList→av
open Bool renaming and_eq_true→ae
open List renaming cons_append→bU,getElem?_append_left→aH,getElem?_append_right→aY,getElem?_eq_getElem→ah,getElem?_eq_none→bM,getElem?_set_ne→bI,getElem?_set_self→bJ,getElem?_take→ao,length→aa,map_cons→aQ,mem_cons_of_mem→bz,mem_cons_self→ct,mem_of_getElem?→bj
open Nat renaming add_assoc→ce,add_zero→b8,beq→aJ,blt_eq→b9,eq_of_beq_eq_true→af,le_refl→aq,lt_of_lt_of_le→aK,lt_or_ge→cx,zero_add→bv
open Go.Value renaming int→aG,oneCell'→cq
open Go.World renaming cell?_of_block→az
namespace Go.Am
open Go
section
variable {P:Program} {w0:W0} {w w':World} {Z0 Zp:aL} {h h':aD} {g:G} {new next base:Nat} {r:A} {L L':Log} {X:Cx}
theorem aV(c:pR P X.tt){t:TypeId}{k:TD→HM}{a:A×aD×Log}(e:(dr X t k).eval next h L=some a):∃d,ba t X.tt=some d∧cn P t d∧(k d).eval next h L=some a:=by
 unfold dr at e
 split at e
 ·rename_i d b;exact⟨d,b,c.get b,e⟩
 ·exact(ac e).elim
theorem ia{d:TD}{k:Ty→HM}{a:A×aD×Log}(e:(pz d k).eval next h L=some a):∃τ,d.ty=some τ∧(k τ).eval next h L=some a:=by
 unfold pz at e
 split at e
 ·rename_i τ b;exact⟨τ,b,e⟩
 ·exact(ac e).elim
theorem aM.val(R:HR w0 Z0 Zp h g w){s:Sem Value}{v:Value}(hr:s.run P w= .ok v w)(a:AR w w0.heap.size Zp h g r v):aM P w0 Z0 Zp h g w new (s >>= fun x=>Pure.pure (Next.value x)) r h:=
 aM.pure R (v:=v) (by simp[hr]) a
theorem Bt{x:A}{v:Value}{j:Nat}(o:AR w base Zp h g x v)(e:(u7 x j).eval next h L=some (r,h',L')):h'=h∧∃u,(Instr.extract v j).run P w= .ok u w∧AR w base Zp h g r u:=by
 unfold u7 at e
 split at e
 ·rename_i ps
  split at e
  ·rename_i t p i;have e:=cm e
   cases e;obtain⟨b,rfl,l⟩:=o;have c:=bm.get (k:=1) (fun x q ⟨u,a,_⟩=>by rw[a];rfl) ps b l j _ i;obtain⟨u,a,n⟩:=c;have d:b[j]? =some u:=by
    have:=getElem?_sub b (j*1) 1 0 u (by rw[a];rfl);simpa using this
   exact⟨rfl,u,by simp[Instr.extract,d],n⟩
  ·exact(ac e).elim
 ·exact(ac e).elim
theorem lj{f:Int→Int→Int}{k:IntKind}{F:Value→Value→Sem Value}(hF:∀a b,F (.int k a) (.int k b)=pure (.int k (f a b))):∀(as:List A) (vs:List Value) (n:Int),
  bm (fun a j=>∃u,j=[u]∧AR w base Zp h g a u) as vs→(mm f k n as).eval next h L=some (r,h',L')→h'=h∧∃u,(vs.foldlM F (.int k n)).run P w= .ok u w∧AR w base Zp h g r u
 |[],vs,n,l,e=>by
  simp only[bm]at l;subst l;obtain⟨rfl,rfl,_⟩:=cu e;exact⟨rfl,.int k n,by simp,AR.eU rfl⟩
 |a::as,vs,n,⟨j,d,o,⟨u,p,D⟩,B⟩,e=>by
  subst p;subst o;unfold mm at e
  split at e
  ·rename_i q;cases q
  ·rename_i I H m J i
   cases i
   split at e
   ·rename_i z _;subst z;have:=D.c;simp only[CR]at this;subst this;obtain⟨t,E,x,y⟩:=lj hF as d _ B e;exact⟨t,E,by simp[List.foldlM_cons,hF,x],y⟩
   ·exact(ac e).elim
  ·exact(ac e).elim
theorem uW{env:Env}{a:Act}(d:∀t,AR w base Zp h g (look ar t env) (a.tmps.getD t undef)):∀(c:List Operand),bm (fun b i=>∃u,i=[u]∧AR w base Zp h g b u) (c.map (jJ env)) (c.map a.eval)
 |[]=>rfl
 |x::c=>⟨[a.eval x],_,rfl,⟨_,rfl,bo d x⟩,uW d c⟩
theorem vB(R:HR w0 Z0 Zp h g w){env:Env}{a:Act}(p:∀t,AR w w0.heap.size Zp h g (look ar t env) (a.tmps.getD t undef)):∀(j:List Operand) (d:List Nat),zs (j.map (jJ env))=some d→
  bm (fun o q=>g.al o∧∃u,q=[u]∧ov u∧(look .dead o h≠.dead→∃b,g.hm o=some b∧u= .pointer (some ⟨b,0,none⟩))) d (j.map a.eval)
 |[],d,e=>by simp[zs,hI]at e;subst e;rfl
 |x::j,d,e=>by
  have i:=bo p x;simp only[zs,aQ,hI]at e
  split at e
  ·rename_i o l
   split at e
   ·rename_i os n
    cases e;have y:=vB R p j os n
    split at l
    ·rename_i z k
     cases l;rw[k]at i;exact⟨[a.eval x],_,rfl,⟨i.c.1,_,rfl,i.c.2.1,i.c.2.2⟩,y⟩
    ·cases l
   ·cases e
  ·cases e
theorem Er{s:List UInt8}{i n:Int}(a:Iz s i=some n):0≤i∧∃b:UInt8,s[i.toNat]? =some b∧n=(b.toNat:Int):=by
 unfold Iz at a
 split at a
 ·rename_i d
  cases c:s[i.toNat]? with
  |none=>simp[c]at a
  |some b=>simp[c]at a;exact⟨d,b,rfl,a.symm⟩
 ·cases a
theorem FB{α:Type}{c:Array α}{a b:α}(h:c.toList=[a,b]):c= #[a,b]:=by
 apply Array.ext';simpa using h
theorem Kx{α:Type}{b:Array α}{a:α}(h:b.toList=[a]):b= #[a]:=by
 apply Array.ext';simpa using h
theorem mC{α β:Type}{f:α→β}{l:List α}{a b:β}(h:l.map f=[a,b]):∃x y,l=[x,y]∧f x=a∧f y=b:=by
 match l,h with
 |[x,y],h=>simp at h;exact⟨x,y,rfl,h.1,h.2⟩
theorem Df{α β:Type}{f:α→β}{l:List α}{a:β}(h:l.map f=[a]):∃x,l=[x]∧f x=a:=by
 match l,h with
 |[x],h=>simp at h;exact⟨x,rfl,h⟩
theorem Bu{t:TypeId}{s:A}{v:Value}{c:Nat}{y:Option (Nat×Nat×Nat)}(b:AR w base Zp h g s v)(a:GC X t s=some (c,y)):CR w base Zp h g (.gs c y) v:=by
 unfold GC at a
 split at a
 ·cases a;exact b.c
 ·split at a
  ·cases a;exact b.c
  ·cases a
 ·cases a
theorem Bv(p:pR P X.tt)(hV:xq P X.la)(R:HR w0 Z0 Zp h g w)(hn:¬ g.al new){env:Env}{a:Act}(K:∀t,AR w w0.heap.size Zp h g (look ar t env) (a.tmps.getD t undef)){b:Builtin}{ts:Array TypeId}{ty:TypeId}{j:Array Operand}{cs:Array Bool}
  (e:(u6 X new b ts.toList (j.toList.map (jJ env))).eval next h L=some (r,h',L')):aM P w0 Z0 Zp h g w new (builtin b ts ty cs (j.map a.eval)) r h':=by
 generalize S:ts.toList=tl at e;generalize q:j.toList.map (jJ env)=al at e;unfold u6 at e
 split at e
 ·
  rename_i t x;obtain⟨x0,hx0,E⟩:=Df q;have B:=Kx S;have has:=Kx hx0;subst B;subst has;have D:=bo K x0;rw[E]at D
  split at e
  ·rename_i d J;have T:=p.get J
   split at e
   ·rename_i te i;obtain⟨rfl,n,ad,c,hv,rfl⟩:=Fo R D e;refine aM.val R (v:=.int .i64 n) ?_ (AR.eU rfl);simp[hv,Builtin.len_,run_underlying (T.slice i),goInt]
   ·rename_i s i;obtain⟨rfl,rfl,_⟩:=cu e;have hv:=D.c;simp only[CR]at hv;refine aM.val R (v:=.int .i64 s.length) ?_ (AR.eU rfl);simp[hv,Builtin.len_,run_underlying (T.string i),goInt,mv]
   ·rename_i n te i;obtain⟨rfl,rfl,_⟩:=cu e;refine aM.val R (v:=.int .i64 n) ?_ (AR.eU rfl);simp[Builtin.len_,run_underlying (T.array i),goInt]
   ·exact(ac e).elim
  ·exact(ac e).elim
 ·
  rename_i t u s x;obtain⟨s0,x0,Q,O,E⟩:=mC q;have B:=FB S;have has:=FB Q;subst B;subst has;have D:=bo K x0;have N:=bo K s0;rw[E]at D;rw[O]at N
  split at e
  ·rename_i d du J z
   split at e
   ·rename_i te tu i l
    split at e
    ·rename_i de Y
     split at e
     ·rename_i c y M
      split at e
      ·rename_i V I hpos;have:=Bq (new:=new) (ty:=ty) R (p.get J) (p.get z) (p.get Y) i l (hV.get I) (by simpa[b9]using hpos) (Bu N M) D e;simpa[builtin]using this
      ·exact(ac e).elim
     ·split at e
      ·rename_i τ hτ
       split at e
       ·rename_i hc;simp only[ae]at hc;have:=Dc (ty:=ty) R hn (p.get J) (p.get z) (p.get Y) i l hc.2 hτ N D e;simpa[builtin]using this
       ·exact(ac e).elim
      ·exact(ac e).elim
    ·exact(ac e).elim
   ·exact(ac e).elim
  ·exact(ac e).elim
 ·
  rename_i t u s x;obtain⟨s0,x0,Q,O,E⟩:=mC q;have B:=FB S;have has:=FB Q;subst B;subst has;have D:=bo K x0;have N:=bo K s0;rw[E]at D;rw[O]at N
  split at e
  ·rename_i d du J z
   split at e
   ·rename_i te tu i l
    split at e
    ·rename_i c y M
     split at e
     ·rename_i V I;have:=Eo (new:=new) (ty:=ty) R (p.get J) (p.get z) i l (hV.get I) (Bu N M) D e;simpa[builtin]using this
     ·exact(ac e).elim
    ·split at e
     ·rename_i o _;have:=Ep (new:=new) (ty:=ty) p R (p.get J) (p.get z) i l N.c D e;simpa[builtin]using this
     ·exact(ac e).elim
   ·exact(ac e).elim
  ·exact(ac e).elim
 ·
  rename_i k n H;have Z:=uW K j.toList;rw[q]at Z;obtain⟨es,U,h1,⟨u,h2,h3⟩,h4⟩:=Z;subst h2;have W:=h3.c;simp only[CR]at W;subst W;obtain⟨rfl,u,h6,h7⟩:=lj (P:=P) (F:=Builtin.max2) (fun a b=>rfl) H U n h4 e;refine aM.val R (v:=u) ?_ h7;simp only[Builtin.max_,Array.toList_map,h1,List.singleton_append];exact h6
 ·
  rename_i k n H;have Z:=uW K j.toList;rw[q]at Z;obtain⟨es,U,h1,⟨u,h2,h3⟩,h4⟩:=Z;subst h2;have W:=h3.c;simp only[CR]at W;subst W;obtain⟨rfl,u,h6,h7⟩:=lj (P:=P) (F:=Builtin.min2) (fun a b=>rfl) H U n h4 e;refine aM.val R (v:=u) ?_ h7;simp only[Builtin.min_,Array.toList_map,h1,List.singleton_append];exact h6
 ·exact(ac e).elim
end
section
variable {P:Program} {w0:W0} {w w':World} {Z0 Zp:aL} {h h':aD} {g:G} {new next base:Nat} {r:A} {L L':Log} {X:Cx}
theorem toListBytes_eq(a b:List UInt8):((⟨a.toArray⟩:ByteArray).toList==(⟨b.toArray⟩:ByteArray).toList)=(a==b):=by rw[Bd,Bd]
theorem qd{R S:Array Value}(d:Nat):∀(E:List Field) (i:Nat) (τs:List Ty) (cs o:List C) (D vs:List Value) (b:Bool),zC P i E τs=true→Gy τs cs o=some b→bG w base Zp h g cs D→bG w base Zp h g o vs→
  (∀j u,D[j]? =some u→R[i+j]? =some u)→(∀j u,vs[j]? =some u→S[i+j]? =some u)→(Op.eqFields (d+1) R S E).run P w= .ok b w
 |[],i,τs,cs,o,D,vs,b,t,n,T,U,M,O=>by
  cases τs with
  |cons _ _=>cases t
  |nil=>
   cases cs with
   |cons _ _=>cases n
   |nil=>
    cases o with
    |cons _ _=>cases n
    |nil=>cases n;rfl
 |f::E,i,τs,cs,o,D,vs,b,t,n,T,U,M,O=>by
  cases τs with
  |nil=>cases t
  |cons τ τs=>
   cases cs with
   |nil=>cases n
   |cons c cs=>
    cases o with
    |nil=>cases n
    |cons V o=>
     simp only[zC,ae]at t;obtain⟨⟨⟨Z,F⟩,y⟩,t⟩:=t;have F:=af F;simp only[Gy]at n
     split at n
     ·rename_i p q l hq
      cases n;obtain⟨u,D,rfl,z,J⟩:=T;obtain⟨v,vs,rfl,B,K⟩:=U;have ih:=qd d E (i+1) τs cs o D vs q t hq J K
       (fun j u H=>by have:=M (j+1) u (by simpa using H);rwa[show i+(j+1)=i+1+j by omega]at this)
       (fun j u H=>by have:=O (j+1) u (by simpa using H);rwa[show i+(j+1)=i+1+j by omega]at this)
      have N:R[f.offset]? =some u:=by rw[F];simpa using M 0 u rfl
      have Q:S[f.offset]? =some v:=by rw[F];simpa using O 0 v rfl
      have x:P.plainKey f.type=true∧(Op.equalIn (d+1) f.type u v).run P w= .ok p w:=by
       cases a:P.underlying f.type with
       |none=>rw[a]at y;cases τ<;>cases y
       |some k=>
        rw[a]at y
        cases c<;>cases V<;>simp only[OB]at l<;>try (cases l;done)
        ·split at l
         ·cases l
          cases k<;>first |(cases y;done)|skip
          simp only[CR]at z B;subst z;subst B;exact⟨by simp[Program.plainKey,a],Go.run_equalIn_bool w d _ _ _ a⟩
         ·cases l
        ·split at l
         ·rename_i q0
          split at l
          ·rename_i W Y _ _
           cases l
           cases k<;>first |(cases y;done)|skip
           simp only[CR]at z B;subst z;subst B;subst W;subst Y;exact⟨by simp[Program.plainKey,a],run_equalIn_int w d _ _ _ _ _ a⟩
          ·cases l
         ·cases l
        ·split at l
         ·cases l
          cases k<;>first |(cases y;done)|skip
          simp only[CR]at z B;subst z;subst B;rename_i s1 s2 _;have:=run_equalIn_string w d _ ⟨s1.toArray⟩ ⟨s2.toArray⟩ a;rw[toListBytes_eq]at this;exact⟨by simp[Program.plainKey,a],this⟩
         ·cases l
      have I:f.name≠ "_":=by simpa using Z
      simp only[Op.eqFields,if_pos I,Sem.run_bind,run_part_plain w x.1 N,run_part_plain w x.1 Q,x.2,Result.andThen_ok]
      cases p with
      |true=>simpa using ih
      |false=>simp
     ·cases n
theorem GU{op:BinOp}{t:TypeId}{d:TD}(T:cn P t d){x y:Operand}{cs:List C}{H:A}{D E:Value}(M:AR w base Zp h g (.v true cs) D)(N:AR w base Zp h g H E)(e:(Mz op d cs H).eval next h L=some (r,h',L')):
  h'=h∧∃c v,r= .v false [c]∧(do eqGuard op t x y D E;binOp op t D E:Sem Value).run P w= .ok v w∧CR w base Zp h g c v:=by
 unfold Mz at e
 split at e
 ·rename_i τ τs I k
  split at e
  ·rename_i b J;obtain⟨z,rfl,p⟩:=M;obtain⟨B,rfl,q⟩:=N;have a:yz P t d.eq=true:=by
    rcases T.eq with h |h
    ·rw[k]at h;cases h
    ·exact h
   unfold yz at a
   split at a
   ·rename_i F n;simp only[ae,Bool.not_eq_true']at a;have l:P.fieldsOf t=F:=by simp[Program.fieldsOf,n]
    have i:(Op.equalIn 10000 t (.agg z.toArray) (.agg B.toArray)).run P w= .ok b w:=by
     rw[run_equalIn_struct w 9999 t _ _ (by rw[l];exact n) a.1.1,l];exact qd 9998 F.toList 0 d.eq cs I z B b a.2 (by rw[k];exact J) p q (fun j u o=>by simpa using o) (fun j u o=>by simpa using o)
    have K:=run_eqGuard_agg (P:=P) w op t x y z.toArray B.toArray a.1.2;simp only[Sem.run_bind,K,Result.andThen_ok]
    split at e
    ·obtain⟨rfl,rfl,_⟩:=dk e;exact⟨rfl,_,_,rfl,by rw[run_eql_struct,i];rfl,rfl⟩
    ·obtain⟨rfl,rfl,_⟩:=dk e;exact⟨rfl,_,_,rfl,by rw[run_neq_struct,i];rfl,rfl⟩
    ·exact(ac e).elim
   ·cases a
  ·exact(ac e).elim
 ·exact(ac e).elim
theorem FC{op:BinOp}{t:TypeId}{d:TD}(T:cn P t d){x y:Operand}{ty:Ty}{l:List ty.den}{tk:Mw}{z:A}{k u:Value}(E:AR w base Zp h g (.v false [.sl ty l tk]) k)(F:AR w base Zp h g z u)(e:(ID op d tk z).eval next h L=some (r,h',L')):
  h'=h∧∃c v,r= .v false [c]∧(do eqGuard op t x y k u;binOp op t k u:Sem Value).run P w= .ok v w∧CR w base Zp h g c v:=by
 unfold ID at e
 split at e
 ·rename_i H p;have D:=T.slice p;have o:=F.c;simp only[CR]at o;subst o;have q:=E.c;obtain⟨_,i⟩:=q;have j:∀(a:Option Addr) (n c:Nat),k= .slice a n c→(do eqGuard .eql t x y k (.slice none 0 0);binOp .eql t k (.slice none 0 0):Sem Value).run P w= .ok (.bool a.isNone) w∧(do eqGuard .neq t x y k (.slice none 0 0);binOp .neq t k (.slice none 0 0):Sem Value).run P w= .ok (.bool (!a.isNone)) w:=by
   intro a n c b;subst b;have B:∀op,(eqGuard op t x y (.slice a n c) (.slice none 0 0)).run P w= .ok () w:=fun op=>by cases op<;>simp[eqGuard]
   simp only[Sem.run_bind,B,Result.andThen_ok];have:=Go.run_equal_slice_nil w t H a n c D;constructor<;>simp[binOp,this]
  split at e
  ·obtain⟨a,n,c,b⟩:=i;obtain⟨rfl,rfl,_⟩:=dk e;exact⟨rfl,_,_,rfl,(j _ _ _ b).1,rfl⟩
  ·obtain⟨a,n,c,b⟩:=i;obtain⟨rfl,rfl,_⟩:=dk e;exact⟨rfl,_,_,rfl,(j _ _ _ b).2,rfl⟩
  ·obtain⟨n,c,b⟩:=i;obtain⟨rfl,rfl,_⟩:=dk e;exact⟨rfl,_,_,rfl,(j _ _ _ b).1,rfl⟩
  ·obtain⟨n,c,b⟩:=i;obtain⟨rfl,rfl,_⟩:=dk e;exact⟨rfl,_,_,rfl,(j _ _ _ b).2,rfl⟩
  ·exact(ac e).elim
 ·exact(ac e).elim
theorem Bw{k:IntKind}:∀(l:List Int) (vs:List Value),bm (PR w Z0 Zp (.int k)) l vs→vs=l.map (aG k)
 |[],vs,h=>h
 |n::l,vs,⟨c,a,e,b,d⟩=>by
  have b:c=[.int k n]:=b;rw[e,b,Bw l a d];rfl
theorem Es{src c i:TypeId}(D:P.underlying src=some (.slice i))(B:P.underlying i=some (.int .u8))(z:P.underlying c=some .string){l:List Int}{v:Value}(J:PR w Z0 Zp (.sl (.int .u8)) l [v]):
  (convert src c v).run P w= .ok (.string ⟨(bytesOf l).toArray⟩) w:=by
 obtain⟨E,d,K,F,M,k,x⟩:=J
 cases F;have k:=Bw l K k;subst k
 cases E with
 |none=>
  have q:l=[]:=by
   cases l with
   |nil=>rfl
   |cons n l=>
    obtain⟨b,t,o,_⟩:=x (by simp)
    cases o
  subst q;rw[run_convert_bytes_string w src c i _ _ _ D B z];simp[Conv.bytesToString,bytesOf];rfl
 |some a=>
  have q:(loadCells a l.length).run P w= .ok (l.map (aG .u8)).toArray w:=by
   have:=run_loadCells_list (P:=P) w a (l.map (aG .u8)) (fun j u p=>by
    obtain⟨b,t,o,I⟩:=x (by intro H;rw[H]at p;simp at p)
    cases o;rw[dj];exact(I j u p).1)
   simpa using this
  have y:=run_bytesToString w a l.length d l q;rw[foldl_push_bytes]at y;refine(run_convert_bytes_string w src c i (some a) l.length d D B z).trans (y.trans ?_);simp[bytesOf,ByteArray.empty,ByteArray.emptyWithCapacity];rfl
end
open Go Go.MapKept
theorem j2:∀τ:Ty,τ.isKey=true→τ.aX=true
 |.bool,_ |.int _,_ |.str,_ |.unit,_=>rfl
 |.sl _,h |.ref _,h |.fn _,h |.cl _ _,h=>by simp[Ty.isKey]at h
 |.pair a b,h=>by
  simp[Ty.isKey]at h;simp[Ty.aX,j2 a h.1,j2 b h.2]
theorem ib:∀(τ:Ty) (x:τ.den),τ.isKey=true→(τ.vals x).length=τ.size
 |.bool,_,_ |.int _,_,_ |.str,_,_ |.unit,_,_=>rfl
 |.sl _,_,h |.ref _,_,h |.fn _,_,h |.cl _ _,_,h=>by simp[Ty.isKey]at h
 |.pair a b,x,h=>by
  simp[Ty.isKey]at h;simp[Ty.vals,Ty.size,ib a x.1 h.1,ib b x.2 h.2]
theorem qe:∀(τ:Ty) (x y:τ.den),τ.isKey=true→τ.vals x=τ.vals y→x=y
 |.bool,x,y,_,e=>by
  have e:[Value.bool x]=[Value.bool y]:=e
  cases e;rfl
 |.int k,x,y,_,e=>by
  have e:[aG k x]=[aG k y]:=e
  cases e;rfl
 |.str,x,y,_,e=>by
  have e:[Value.string ⟨(show List UInt8 from x).toArray⟩]=[Value.string ⟨(show List UInt8 from y).toArray⟩]:=e;simp only[List.cons.injEq,Value.string.injEq,ByteArray.mk.injEq,and_true]at e;have:=congrArg Array.toList e;exact(show(show List UInt8 from x)=(show List UInt8 from y)by simpa using this)
 |.unit,_,_,_,_=>rfl
 |.sl _,_,_,h,_ |.ref _,_,_,h,_ |.fn _,_,_,h,_ |.cl _ _,_,_,h,_=>by simp[Ty.isKey]at h
 |.pair a b,x,y,h,e=>by
  simp[Ty.isKey]at h;have e:a.vals x.1++b.vals x.2=a.vals y.1++b.vals y.2:=e;have i:(a.vals x.1).length=(a.vals y.1).length:=by rw[ib a _ h.1,ib a _ h.1]
  obtain⟨c,d⟩:=List.append_inj e i;exact Prod.ext (qe a _ _ h.1 c) (qe b _ _ h.2 d)
theorem dN:∀(τ:Ty) (x y:τ.den),τ.isKey=true→(τ.gS x y=true↔x=y)
 |.bool,x,y,_=>by
  show((show Bool from x)==(show Bool from y))=true↔_;exact beq_iff_eq
 |.int k,x,y,_=>by
  show((show Int from x)==(show Int from y))=true↔_;exact beq_iff_eq
 |.str,x,y,_=>by
  show((show List UInt8 from x)==(show List UInt8 from y))=true↔_;exact beq_iff_eq
 |.unit,_,_,_=>⟨fun _=>rfl,fun _=>rfl⟩
 |.sl _,_,_,h |.ref _,_,_,h |.fn _,_,_,h |.cl _ _,_,_,h=>by simp[Ty.isKey]at h
 |.pair a b,x,y,h=>by
  simp[Ty.isKey]at h;simp only[Ty.gS,ae,dN a _ _ h.1,dN b _ _ h.2];exact⟨fun⟨c,d⟩=>Prod.ext c d,fun e=>by rw[e];exact⟨rfl,rfl⟩⟩
theorem FV.inj{τ:Ty}{x y:τ.den}{v:Value}(d:τ.isKey=true)(b:FV τ x v)(a:FV τ y v):x=y:=by
 unfold FV at b a
 split at b<;>rename_i i<;>rw[i]at a<;>simp only at a
 ·rw[b]at a;simp only[Value.agg.injEq]at a;have:=congrArg Array.toList a;exact qe τ x y d (by simpa using this)
 ·exact qe τ x y d (b.trans a.symm)
theorem FV.same{τ:Ty}{x:τ.den}{v u:Value}(b:FV τ x v)(a:FV τ x u):v=u:=by
 unfold FV at b a
 split at b<;>rename_i d<;>rw[d]at a<;>simp only at a
 ·rw[b,a]
 ·rw[b]at a;cases a;rfl
section
variable {P:Program} {w0:W0} {w w':World} {Z0 Zp:aL} {h h':aD} {g:G} {new next base:Nat} {r:A} {L L':Log} {X:Cx}
theorem yE{τ:Ty}(b:τ.isKey=true){i:Bool}{cs:List C}{x:τ.den}{v:Value}(a:i=τ.isAgg)(c:VR w base Zp h g i cs v)(k:τ.bp cs=some x):FV τ x v:=by
 unfold FV
 cases j:τ.isAgg with
 |true=>
  rw[a,j]at c;obtain⟨l,rfl,d⟩:=c;have:=(PR.vals τ x l b).1 (ci (j2 τ b) d k);rw[this]
 |false=>
  rw[a,j]at c;have d:bG w base Zp h g cs [v]:=c;exact((PR.vals τ x [v] b).1 (ci (j2 τ b) d k)).symm
theorem Ky{τ:Ty}(d:τ.isKey=true){x:τ.den}{v:Value}(a:FV τ x v):VR w base Zp h g τ.isAgg (τ.cells x) v:=by
 have b:bG w base Zp h g (τ.cells x) (τ.vals x):=bG.gT τ x _ ((PR.vals τ x _ d).2 rfl);unfold FV at a
 cases c:τ.isAgg with
 |true=>rw[c]at a;exact⟨_,a,b⟩
 |false=>
  rw[c]at a;have a:τ.vals x=[v]:=a;rw[a]at b;exact b
theorem pE:∀τ:Ty,τ.isKey=true→τ.dJ=τ.vals τ.zero
 |.bool,_ |.int _,_ |.str,_ |.unit,_=>rfl
 |.sl _,h |.ref _,h |.fn _,h |.cl _ _,h=>by simp[Ty.isKey]at h
 |.pair a b,h=>by
  simp[Ty.isKey]at h;show a.dJ++b.dJ=a.vals a.zero++b.vals b.zero;rw[pE a h.1,pE b h.2]
theorem GV{t:TypeId}{d:TD}(T:cn P t d){τ:Ty}(p:d.zero=true)(l:d.ty=some τ)(o:τ.isKey=true):∃z,(zeroValue t).run P w= .ok z w∧FV τ τ.zero z:=by
 obtain⟨i,z,n,_,_,j,a,c⟩:=T.zeroV p l;refine⟨z,by simp[zeroValue,typeInfo,n,j],?_⟩;have b:=(T.rZ l).2.1;rw[pE τ o]at a;unfold FV
 cases k:τ.isAgg with
 |true=>
  rw[←b,k]at c
  cases z<;>simp[xp]at c;simp only[Value.cells]at a;show Value.agg _= .agg _;rw[←a]
 |false=>
  rw[←b,k]at c;show τ.vals τ.zero=[z];rw[←a]
  cases z<;>simp[xp]at c<;>rfl
def Found(a:List MapEntry)(kv:Value)(r:Option (Nat×Value)):Prop:=
 (r=none∧∀e∈a,e.key≠kv)∨∃j e,r=some (j,e.val)∧a[j]? =some e∧e.key=kv
theorem qf{tk:TypeId}{kv:Value}:∀(c:List MapEntry) (i:Nat),(∀e∈c,∃b,(Op.equal tk kv e.key).run P w= .ok b w∧(b=true↔e.key=kv))→
  ∃r,(Instr.findAsking tk kv c i).run P w= .ok r w∧((r=none∧∀e∈c,e.key≠kv)∨∃j e,r=some (i+j,e.val)∧c[j]? =some e∧e.key=kv)
 |[],i,_=>⟨none,rfl,.inl ⟨rfl,fun e h=>by cases h⟩⟩
 |e::c,i,H=>by
  obtain⟨b,k,l⟩:=H e ct;obtain⟨r,p,t⟩:=qf c (i+1) fun e x=>H e (bz _ x)
  cases b with
  |true=>
   exact⟨_,by simp only[Instr.findAsking,Sem.run_bind,k,Result.andThen_ok,if_true];rfl,.inr ⟨0,e,rfl,rfl,l.1 rfl⟩⟩
  |false=>
   refine⟨r,by simp only[Instr.findAsking,Sem.run_bind,k,Result.andThen_ok];simpa using p,?_⟩;rcases t with⟨rfl,d⟩|⟨j,n,rfl,d,u⟩
   ·refine .inl ⟨rfl,fun o a=> ?_⟩;rcases List.mem_cons.1 a with rfl |a
    ·exact fun q=>by have:=l.2 q;cases this
    ·exact d o a
   ·exact .inr ⟨j+1,n,by rw[show i+(j+1)=i+1+j by omega],by simpa using d,u⟩
def Ty.ints(k:IntKind):(τ:Ty)→τ.den→List Int
 |.int _,n=>[n]
 |.pair a b,x=>a.ints k x.1++b.ints k x.2
 |_,_=>[]
theorem kO{k:IntKind}:∀(τ:Ty) (x:τ.den),τ.rU k=true→τ.isKey=true∧τ.vals x=(τ.ints k x).map (aG k)
 |.int q,x,c=>by
  simp only[Ty.rU]at c
  split at c
  ·rename_i e _;subst e;exact⟨rfl,rfl⟩
  ·cases c
 |.unit,_,_=>⟨rfl,rfl⟩
 |.pair a b,x,c=>by
  simp only[Ty.rU,ae]at c;obtain⟨d,i⟩:=kO a x.1 c.1;obtain⟨j,l⟩:=kO b x.2 c.2;refine⟨by simp[Ty.isKey,d,j],?_⟩;show a.vals x.1++b.vals x.2=(a.ints k x.1++b.ints k x.2).map _;rw[i,l,List.map_append]
 |.bool,_,c |.str,_,c |.sl _,_,c |.ref _,_,c |.fn _,_,c |.cl _ _,_,c=>by cases c
theorem vC{k:IntKind}{e:TypeId}(o:P.underlying e=some (.int k))(d:Nat)(a b:List Int)(y:a.length=b.length):∀n:List Nat,(∀i∈n,i<a.length)→
  ∃r,(Op.eqItems (d+1) e 1 (a.map (aG k)).toArray (b.map (aG k)).toArray n).run P w= .ok r w∧(r=true↔∀i∈n,a[i]? =b[i]?)
 |[],_=>⟨true,rfl,by simp⟩
 |i::n,q=>by
  obtain⟨r,u,x⟩:=vC o d a b y n fun j l=>q j (bz _ l);have p:=q i ct;have t:P.plainKey e=true:=by simp[Program.plainKey,o]
  have B:(a.map (aG k)).toArray[i*1]? =some (.int k a[i]):=by simp[p]
  have D:(b.map (aG k)).toArray[i*1]? =some (.int k (b[i]'(by omega))):=by simp[show i<b.length by omega]
  have z:=run_equalIn_int (P:=P) w d e k k a[i] (b[i]'(by omega)) o;simp only[Op.eqItems,Sem.run_bind,run_part_plain w t B,run_part_plain w t D,z,Result.andThen_ok]
  by_cases c:a[i]=b[i]'(by omega)
  ·refine⟨r,by simp[c,u],?_⟩;rw[x];refine⟨fun H j l=> ?_,fun H j l=>H j (bz _ l)⟩;rcases List.mem_cons.1 l with rfl |l
   ·simp[p,show j<b.length by omega,c]
   ·exact H j l
  ·refine⟨false,by simp[c],?_⟩;simp only[Bool.false_eq_true,false_iff];intro H;have:=H i ct;simp[p,show i<b.length by omega]at this;exact c this
theorem Bx{k:IntKind}{tk e:TypeId}{n:Nat}{i:TypeInfo}(u:P.underlying tk=some (.array n e))(p:P.underlying e=some (.int k))(c:P.info? e=some i)(t:i.size=1){a b:List Int}(x:a.length=n)(y:b.length=n):
  ∃r,(Op.equal tk (.agg (a.map (aG k)).toArray) (.agg (b.map (aG k)).toArray)).run P w= .ok r w∧(r=true↔b=a):=by
 have o:P.cellsOf e=1:=by simp[Program.cellsOf,c,t]
 obtain⟨r,d,l⟩:=vC (w:=w) p 9998 a b (by omega) (List.range n) fun i c=>by simp at c;omega
 refine⟨r,?_,?_⟩
 ·show(Op.equalIn (9999+1) tk _ _).run P w=_;rw[run_equalIn_array w 9999 _ _ u c,o];exact d
 ·rw[l];refine⟨fun H=> ?_,fun e i _=>by rw[e]⟩;apply List.ext_getElem?;intro j
  by_cases q:j<n
  ·exact(H j (by simpa using q)).symm
  ·rw[bM (by omega),bM (by omega)]
theorem Bz{k:IntKind}{tk e:TypeId}{n:Nat}{i:TypeInfo}(x:P.underlying tk=some (.array n e))(l:P.underlying e=some (.int k))(o:P.info? e=some i)(u:i.size=1){a:List Int}(D:a.length=n)(em:Bool):
  (Instr.checkKey em 10000 tk (.agg (a.map (aG k)).toArray)).run P w= .ok () w:=by
 have t:P.plainKey e=true:=by simp[Program.plainKey,l]
 obtain⟨m,q⟩:∃m,(10000:Nat)=m+1+1:=⟨9998,rfl⟩;rw[q,Instr.checkKey];simp only[Sem.run_bind,run_underlying x,Result.andThen_ok];simp only[Std.Legacy.Range.forIn_eq_forIn_range',Std.Legacy.Range.size,Nat.sub_zero,Nat.add_one_sub_one,Nat.div_one];have d:∀c:List Nat,(∀j∈c,j<a.length)→Sem.run P (forIn c PUnit.unit fun i (_:PUnit)=>do
   Instr.checkKey em (m+1) e (←part e (a.map (aG k)).toArray (i*(←sizeOf e)))
   pure (ForInStep.yield PUnit.unit)) w= .ok PUnit.unit w:=by
  intro c
  induction c with
  |nil=>intro _;rfl
  |cons j c B=>
   intro H;have b:=H j ct;have y:(a.map (aG k)).toArray[j*1]? =some (.int k a[j]):=by simp[b]
   have z:(sizeOf e).run P w= .ok 1 w:=by simp[Go.sizeOf,typeInfo,o,u]
   have p:(Instr.checkKey em (m+1) e (.int k a[j])).run P w= .ok () w:=by
    simp only[Instr.checkKey,Sem.run_bind,run_underlying l,Result.andThen_ok];rfl
   rw[List.forIn_cons];simp only[Sem.run_bind,z,Result.andThen_ok];rw[run_part_plain w t y];simp only[Result.andThen_ok];rw[p];simp only[Result.andThen_ok,Sem.run_pure];exact B fun j b=>H j (bz _ b)
 rw[d (List.range' 0 n) fun j b=>by simp at b;omega];rfl
theorem ll(hX:pR P X.tt){tk:TypeId}{k:Ty}(o:pY X tk=some k):k.isKey=true∧∀(x:k.den) (kv:Value),FV k x kv→
  (∀em,(Instr.checkKey em 10000 tk kv).run P w= .ok () w)∧(Instr.keyThatStays kv kv).run P w= .ok kv w∧
  ∀z:List MapEntry,(∀e∈z,∃y,FV k y e.key)→∃r,(Instr.findKey tk kv z).run P w= .ok r w∧Found z kv r:=by
 unfold pY at o
 split at o
 ·rename_i d hd;have T:=hX.get hd
  split at o
  ·rename_i K q D R
   split at o
   ·rename_i e _;subst e
    cases o;have F:=T.int D;refine⟨rfl,fun x kv c=> ?_⟩;have c:kv= .int K x:=by
     have c:[aG K x]=[kv]:=c
     cases c;rfl
    subst c;have p:IsKey (.int K) (.int K x):=by simp[IsKey]
    refine⟨fun em=>run_checkKey F p em 9999,run_keyThatStays p,fun z E=> ?_⟩;have I:∀e∈z,IsKey (.int K) e.key:=by
     intro e N;obtain⟨y,u⟩:=E e N;have u:[aG K y]=[e.key]:=u;simp only[List.cons.injEq,and_true]at u;rw[←u];simp[IsKey]
    rcases findNow_spec p z 0 I with⟨t,B⟩|⟨j,e,t,B,M⟩
    ·exact⟨none,run_findKey F t,.inl ⟨rfl,B⟩⟩
    ·rw[bv]at t;exact⟨_,run_findKey F t,.inr ⟨j,e,rfl,B,M⟩⟩
   ·cases o
  ·rename_i D R
   cases o;have F:=T.string D;refine⟨rfl,fun x kv c=> ?_⟩;have c:kv= .string ⟨(show List UInt8 from x).toArray⟩:=by
    have c:[Value.string ⟨(show List UInt8 from x).toArray⟩]=[kv]:=c
    cases c;rfl
   subst c;have p:IsKey .string (.string ⟨(show List UInt8 from x).toArray⟩):=by simp[IsKey]
   refine⟨fun em=>run_checkKey F p em 9999,run_keyThatStays p,fun z E=> ?_⟩;have I:∀e∈z,IsKey .string e.key:=by
    intro e N;obtain⟨y,u⟩:=E e N;have u:[Value.string ⟨(show List UInt8 from y).toArray⟩]=[e.key]:=u;simp only[List.cons.injEq,and_true]at u;rw[←u];simp[IsKey]
   rcases findNow_spec p z 0 I with⟨t,B⟩|⟨j,e,t,B,M⟩
   ·exact⟨none,run_findKey F t,.inl ⟨rfl,B⟩⟩
   ·rw[bv]at t;exact⟨_,run_findKey F t,.inr ⟨j,e,rfl,B,M⟩⟩
  ·rename_i n e τ D R
   split at o
   ·rename_i de Z;have Te:=hX.get Z
    split at o
    ·rename_i q P2
     split at o
     ·rename_i hc;simp only[ae]at hc;obtain⟨⟨⟨t,B⟩,M⟩,W⟩:=hc;have t:=af t;have B:=af B
      cases o;have F:=T.array D;have S:=Te.int P2;obtain⟨i,hi,Q,_⟩:=Te.inf;have J:∀x:k.den,(k.ints q x).length=n:=by
       intro x;obtain⟨g1,H⟩:=kO (k:=q) k x W;have:=ib k x g1;rw[H]at this;simpa[B]using this
      have O:∀(x:k.den) (v:Value),FV k x v→v= .agg ((k.ints q x).map (aG q)).toArray:=by
       intro x v c;unfold FV at c;rw[M]at c;have c:v= .agg (k.vals x).toArray:=c;rw[c,(kO (k:=q) k x W).2]
      refine⟨(kO (k:=q) k k.zero W).1,fun x kv c=> ?_⟩;have hkv:=O x kv c;subst hkv;refine⟨fun em=>Bz F S hi (Q.trans t) (J x) em,?_,fun z E=> ?_⟩
      ·have P3:∀n (l:List Int),((l.map (aG q)).zip (l.map (aG q))).all (fun(x,y)=>Instr.sameBits n x y)=true:=by
        intro n l
        induction l with
        |nil=>rfl
        |cons a l ih=>
         simp only[aQ,List.zip_cons_cons,List.all_cons,ih,Bool.and_true];simp[Instr.sameBits]
       have:Instr.sameBits 10000 (.agg ((k.ints q x).map (aG q)).toArray) (.agg ((k.ints q x).map (aG q)).toArray)=true:=by
        rw[show(10000:Nat)=9999+1 from rfl,Instr.sameBits];simpa using P3 9999 (k.ints q x)
       simp[Instr.keyThatStays,this]
      ·have P4:(match P.underlying tk with |some (.array _ _)|some (.struct _)=>true |_=>false)=true:=by rw[F]
       rw[run_findKey_eq w P4];obtain⟨r,g1,H⟩:=qf (P:=P) (w:=w) (tk:=tk) (kv:=.agg ((k.ints q x).map (aG q)).toArray) z 0 (by
        intro e N;obtain⟨y,u⟩:=E e N;have u:=O y _ u;obtain⟨b,U,V⟩:=Bx (w:=w) F S hi (Q.trans t) (J x) (J y);refine⟨b,by rw[u];exact U,?_⟩;rw[V,u];constructor
        ·intro e;rw[e]
        ·intro e;simp only[Value.agg.injEq]at e;have:=congrArg Array.toList e;simp only at this;exact(List.map_inj_right (fun a b Y=>by cases Y;rfl)).1 this)
       refine⟨r,g1,?_⟩;rcases H with H |⟨j,e,H,U,V⟩
       ·exact .inl H
       ·rw[bv]at H;exact .inr ⟨j,e,H,U,V⟩
     ·cases o
    ·cases o
   ·cases o
  ·cases o
 ·cases o
theorem yF{k v:Ty}(b:k.isKey=true){x:k.den}:∀l:List (k.den×v.den),(∀p∈l,p.1≠x)→n4 k.gS l x=none
 |[],_=>rfl
 |p::l,a=>by
  have c:k.gS x p.1=false:=by
   cases d:k.gS x p.1 with
   |false=>rfl
   |true=>exact absurd ((dN k _ _ b).1 d).symm (a p ct)
  simp only[n4,c];exact yF b l fun q i=>a q (bz _ i)
theorem yG{k v:Ty}(b:k.isKey=true){x:k.den}{y:v.den}:∀(l:List (k.den×v.den)) (j:Nat),(l.map (·.1)).Nodup→l[j]? =some (x,y)→n4 k.gS l x=some y
 |[],j,_,a=>by simp at a
 |p::l,0,_,a=>by
  simp at a;subst a;simp only[n4,(dN k x x b).2 rfl]
 |p::l,j+1,c,a=>by
  have a:l[j]? =some (x,y):=by simpa using a
  simp only[aQ,List.nodup_cons]at c;have d:k.gS x p.1=false:=by
   cases i:k.gS x p.1 with
   |false=>rfl
   |true=>
    exfalso;apply c.1;rw[←(dN k _ _ b).1 i];exact List.mem_map.2 ⟨(x,y),bj a,rfl⟩
  simp only[n4,d];exact yG b l j c.2 a
theorem yH{k v:Ty}(b:k.isKey=true){x:k.den}{z:v.den}:∀l:List (k.den×v.den),(∀p∈l,p.1≠x)→jK k.gS l x z=l++[(x,z)]
 |[],_=>rfl
 |p::l,a=>by
  have c:k.gS x p.1=false:=by
   cases d:k.gS x p.1 with
   |false=>rfl
   |true=>exact absurd ((dN k _ _ b).1 d).symm (a p ct)
  simp only[jK,c,bU];rw[yH b l fun q i=>a q (bz _ i)]
theorem yI{k v:Ty}(b:k.isKey=true){x:k.den}{y z:v.den}:∀(l:List (k.den×v.den)) (j:Nat),(l.map (·.1)).Nodup→l[j]? =some (x,y)→jK k.gS l x z=l.set j (x,z)
 |[],j,_,a=>by simp at a
 |p::l,0,_,a=>by
  simp at a;subst a;simp only[jK,(dN k x x b).2 rfl,List.set_cons_zero]
 |p::l,j+1,c,a=>by
  have a:l[j]? =some (x,y):=by simpa using a
  simp only[aQ,List.nodup_cons]at c;have d:k.gS x p.1=false:=by
   cases i:k.gS x p.1 with
   |false=>rfl
   |true=>
    exfalso;apply c.1;rw[←(dN k _ _ b).1 i];exact List.mem_map.2 ⟨(x,y),bj a,rfl⟩
  simp only[jK,d,List.set_cons_succ];rw[yI b l j c.2 a]
theorem Eb.keys{k v:Ty}{l:List (k.den×v.den)}{a:List MapEntry}(h:Eb k v l a):∀e∈a,∃y,FV k y e.key:=by
 intro e d;obtain⟨j,b⟩:=List.mem_iff_getElem?.1 d;obtain⟨p,i⟩:∃p,l[j]? =some p:=by
  have:j<a.length:=(List.getElem?_eq_some_iff.1 b).1;exact⟨_,ah (by rw[h.1];exact this)⟩
 exact⟨p.1,(h.2 j p e i b).1⟩
theorem vD{k v:Ty}{l:List (k.den×v.den)}{b:List MapEntry}(h:Eb k v l b){x:k.den}{kv:Value}(o:FV k x kv)(i:∀e∈b,e.key≠kv):∀p∈l,p.1≠x:=by
 intro p n e;obtain⟨j,d⟩:=List.mem_iff_getElem?.1 n;have c:j<l.length:=(List.getElem?_eq_some_iff.1 d).1;have a:b[j]? =some (b[j]'(by rw[←h.1];exact c)):=ah _
 have:=(h.2 j p _ d a).1;rw[e]at this;exact i _ (bj a) (this.same o)
theorem vE{k v:Ty}(p:k.isKey=true){l:List (k.den×v.den)}{b:List MapEntry}(h:Eb k v l b){x:k.den}{kv:Value}(q:FV k x kv){j:Nat}{e:MapEntry}(i:b[j]? =some e)(o:e.key=kv):∃y,l[j]? =some (x,y)∧FV v y e.val:=by
 have c:j<b.length:=(List.getElem?_eq_some_iff.1 i).1;have a:l[j]? =some (l[j]'(by rw[h.1];exact c)):=ah _
 obtain⟨d,n⟩:=h.2 j _ _ a i;rw[o]at d;have:=d.inj p q;exact⟨_,by rw[a,←this],n⟩
theorem pF{k v b c:Ty}{l:List (k.den×v.den)}{m:List (b.den×c.den)}(a:lf k v b c l=some m):∃(h:k=b) (h':v=c),m=h▸h'▸l:=by
 unfold lf at a
 split at a
 ·rename_i h h' _ _
  cases a;exact⟨h,h',rfl⟩
 ·cases a
theorem mD(b:pR P X.tt){tk a:TypeId}{k v:Ty}(hm:mn X tk a=some (k,v)):pY X tk=some k∧v.isKey=true∧∃d,cn P a d∧d.zero=true∧d.ty=some v:=by
 unfold mn at hm
 split at hm
 ·rename_i q d j c
  split at hm
  ·rename_i u n l
   split at hm
   ·rename_i i
    cases hm;exact⟨j,i,d,b.get c,n,l⟩
   ·cases hm
  ·cases hm
 ·cases hm
theorem cn.map{t:TypeId}{d:TD}(T:cn P t d){tk b:TypeId}(j:d.desc= .map tk b):P.underlying t=some (.map tk b):=by
 obtain⟨y,i,a⟩:=T.under;rw[j]at a
 cases y<;>simp[jb]at a;rw[i,a.1,a.2]
theorem BA(d:pR P X.tt)(R:HR w0 Z0 Zp h g w)(i:¬ g.al new){t tk y:TypeId}{k v:Ty}(hm:mn X tk y=some (k,v)):
  aM P w0 Z0 Zp h g w new (do pure (.value (←Instr.makeMap t none))) (.v false [.mp new]) ((new,.map k v [])::h):=by
 obtain⟨l,n,_⟩:=mD d hm;have u:=(ll (P:=P) (w:=w) d l).1;have c:(w.alloc (.map #[] 0)).heap=w.heap.push (.map #[] 0):=rfl;have a:(w.alloc (.map #[] 0)).heap[w.heap.size]? =some (.map #[] 0):=by rw[c];simp
 have b:=Le.alloc R i (.map k v []) 0 c;refine⟨_,.map (some w.heap.size),_,_,?_,.inl rfl,R.alloc i (.map k v []) 0 c (R.ext.alloc _) ⟨u,n,by simp,w.heap.size,#[],0,gX _ _ _ _,a,rfl,fun j p e q=>by simp at q⟩ (fun _=>rfl),b,AR.eU ⟨.inr rfl,⟨_,rfl⟩,fun _=>⟨_,gX _ _ _ _,rfl⟩⟩,fun o x=>x⟩;simp[Instr.makeMap,newObj,Sem.run]
theorem Dg(hX:pR P X.tt)(R:HR w0 Z0 Zp h g w){t tk tv:TypeId}{d:TD}(T:cn P t d)(hd:d.desc= .map tk tv){k v:Ty}(hm:mn X tk tv=some (k,v)){x ix:A}{vx E:Value}(hx:AR w w0.heap.size Zp h g x vx)(hi:AR w w0.heap.size Zp h g ix E){ok:Bool}
  (e:(zu k v x ix ok).eval next h L=some (r,h',L')):h'=h∧∃u,(Instr.lookup t vx E ok).run P w= .ok u w∧AR w w0.heap.size Zp h g r u:=by
 obtain⟨h1,h2,dv,Tv,hz,P5⟩:=mD hX hm;have W:=ll (P:=P) (w:=w) hX h1;have hu:=T.map hd;unfold zu at e
 split at e
 ·rename_i o gg cs
  split at e
  ·rename_i y U hy;have e:=aR e
   split at e
   ·rename_i k' v' l ho
    split at e
    ·rename_i N hc;obtain⟨V,Kz,Y⟩:=pF hc;subst V Kz;have Y:N=l:=Y;subst Y;obtain⟨zB,_,hp⟩:=hx.c;obtain⟨b,hb,rfl⟩:=hp (by rw[ho];simp);have K:=R.ob o;rw[ho]at K;obtain⟨g1,g2,Z,b',es,Q,I,S,B⟩:=K;rw[hb]at I;cases I;have p:FV k' y E:=yE g1 (by simpa using U) hi hy;obtain⟨c1,_,c3⟩:=W.2 y E p;obtain⟨D,c4,F⟩:=c3 es.toList B.keys;obtain⟨z,hz1,hz2⟩:=GV (w:=w) Tv hz P5 g2;have n:∀(i:Value) (O:Bool),((D.map (fun u=>(u.2,true))).getD (z,false)=(i,O))→(Instr.lookup t (.map (some b)) E ok).run P w= .ok (if ok then .tuple #[i,.bool O]else i) w:=by
      intro i O a;simp only[Instr.lookup,Sem.run_bind,run_underlying hu,Result.andThen_ok,MapKept.run_getObj_map S,Sem.run_pure,c1,c4]
      cases D with
      |none=>simp at a;obtain⟨rfl,rfl⟩:=a;simp[hz1]
      |some q=>obtain⟨q1,q2⟩:=q;simp at a;obtain⟨rfl,rfl⟩:=a;simp
     have H:∀(i:Value) (q:Option v'.den),n4 k'.gS N y=q→((D.map (fun u=>(u.2,true))).getD (z,false)=(i,q.isSome))→FV v' (q.getD v'.zero) i→
       h'=h∧∃u,(Instr.lookup t (.map (some b)) E ok).run P w= .ok u w∧AR w w0.heap.size Zp h g r u:=by
      intro i q hq J a;rw[hq]at e;have M:=Ky (w:=w) (base:=w0.heap.size) (Zp:=Zp) (h:=h) (g:=g) g2 a
      cases ok with
      |true=>
       cases cm e;refine⟨rfl,_,n _ _ J,?_⟩;exact⟨[i,.bool q.isSome],rfl,[i],[.bool q.isSome],rfl,⟨i,rfl,M⟩,[.bool q.isSome],[],rfl,⟨_,rfl,⟨_,[],rfl,rfl,rfl⟩⟩,rfl⟩
      |false=>
       cases cm e;exact⟨rfl,_,n _ _ J,M⟩
     rcases F with⟨rfl,F⟩|⟨j,en,rfl,F,c6⟩
     ·exact H z none (yF g1 N (vD B p F)) rfl hz2
     ·obtain⟨yy,c7,c8⟩:=vE g1 B p F c6;exact H en.val (some yy) (yG g1 N j Z c7) rfl c8
    ·exact(ac e).elim
   ·exact(ac e).elim
  ·exact(ac e).elim
 ·exact(ac e).elim
theorem Dh(hX:pR P X.tt)(R:HR w0 Z0 Zp h g w){t tk tv:TypeId}{d:TD}(T:cn P t d)(hd:d.desc= .map tk tv){k v:Ty}(hm:mn X tk tv=some (k,v)){x ix a:A}{vx N U:Value}(hx:AR w w0.heap.size Zp h g x vx)(hi:AR w w0.heap.size Zp h g ix N)(ha:AR w w0.heap.size Zp h g a U)
  (e:(zv k v x ix a).eval next h L=some (r,h',L')):aM P w0 Z0 Zp h g w new (do Instr.mapUpdate t vx N U;pure .skip) r h':=by
 obtain⟨h1,h2,_⟩:=mD hX hm;have hkk:=ll (P:=P) (w:=w) hX h1;have hu:=T.map hd;unfold zv at e
 split at e
 ·rename_i o gg cs Si ds
  split at e
  ·rename_i y z O hy hz;have e:=aR e
   split at e
   ·rename_i M W l ho
    split at e
    ·rename_i I hc;obtain⟨hk',Kz,hl⟩:=pF hc;subst hk' Kz;have hl:I=l:=hl;subst hl;simp only[ae,beq_iff_eq]at O;have e:=bx e
     cases cm e;obtain⟨zB,_,B⟩:=hx.c;obtain⟨b,hb,rfl⟩:=B (by rw[ho];simp);have Ek:=R.ob o;rw[ho]at Ek;obtain⟨g1,g2,S,b',es,D,hb',J,u⟩:=Ek;rw[hb]at hb';cases hb';have K:FV M y N:=yE g1 O.1 hi hy;have hfz:FV W z U:=yE g2 O.2 ha hz;obtain⟨c1,c2,c3⟩:=hkk.2 y N K;obtain⟨res,c4,V⟩:=c3 es.toList u.keys;have Mf:=R.home o b (by rw[ho];simp) hb;have Z:∀(E:Array MapEntry) (n:Nat),(Instr.mapUpdate t (.map (some b)) N U).run P w= .ok () { w with heap:=w.heap.setIfInBounds b (.map E n) }→Eb M W (jK M.gS I y z) E.toList→((jK M.gS I y z).map (·.1)).Nodup→
       aM P w0 Z0 Zp h g w new (do Instr.mapUpdate t (.map (some b)) N U;pure .skip) gR ((o,.map M W (jK M.gS I y z))::h):=by
      intro E n hrun MY MZ;have hs:=heap_set (o':=Obj.map E n) J;obtain⟨W1,W2⟩:=R.write (x:=.map M W (jK M.gS I y z)) (w':={ w with heap:=w.heap.setIfInBounds b (.map E n) }) hb (by rw[ho];rfl) (by rw[ho];exact .inr (.inr (.inr (.inr (.inl ⟨_,_,_,_,rfl,rfl⟩))))) rfl
       (fun c hc=>hs.2 c hc) (by simp) (gY R.ext rfl rfl rfl (by simp) (fun i hi _=>hs.2 i (by omega)))
       (fun _=>⟨g1,g2,MZ,b,E,n,hb,hs.1,MY⟩)
      exact⟨.skip,undef,_,g,by simp[hrun],.inr ⟨rfl,rfl⟩,W1,W2,AR.skip,fun _ hh=> .inl hh⟩
     rcases V with⟨rfl,V⟩|⟨j,en,rfl,V,c6⟩
     ·have hno:=vD u K V;have DT:=yH (v:=W) (z:=z) g1 I hno;refine Z (es.push { key:=N,val:=U,born:=D }) (D+1) ?_ ?_ ?_
      ·simp only[Instr.mapUpdate,Sem.run_bind,run_underlying hu,Result.andThen_ok,MapKept.run_getObj_map J,c1,c4];exact MapKept.run_setObj_map _ J
      ·rw[DT,Array.toList_push];refine⟨by simp[u.1],fun i p en B F=> ?_⟩
       by_cases hi:i<I.length
       ·rw[aH hi]at B;rw[aH (by rw[←u.1];exact hi)]at F;exact u.2 i p en B F
       ·rw[aY (by omega)]at B;rw[aY (by rw[←u.1];omega),←u.1]at F;obtain⟨q,hq⟩:∃q,q=i -I.length:=⟨_,rfl⟩;rw[←hq]at B F
        match q,B,F with
        |0,B,F=>
         simp at B F;subst B F;exact⟨K,hfz⟩
        |q+1,B,_=>simp at B
      ·rw[DT,List.map_append,List.nodup_append];refine⟨S,by simp,fun q hq q' hq'=> ?_⟩;simp at hq';subst hq';obtain⟨p,B,rfl⟩:=List.mem_map.1 hq;exact hno p B
     ·obtain⟨yy,c7,c8⟩:=vE g1 u K V c6;have hps:=yI (v:=W) (z:=z) g1 I j S c7;have Y:es[j]? =some en:=by simpa using V
      refine Z (es.modify j fun e=>{ e with key:=N,val:=U }) D ?_ ?_ ?_
      ·simp only[Instr.mapUpdate,Sem.run_bind,run_underlying hu,Result.andThen_ok,MapKept.run_getObj_map J,c1,c4,Y,Option.map_some,Option.getD_some,c6,c2];exact MapKept.run_setObj_map _ J
      ·rw[hps];refine⟨by simp[u.1],fun i p M0 B F=> ?_⟩;have Q:j<I.length:=(List.getElem?_eq_some_iff.1 c7).1
       by_cases H:j=i
       ·subst H;rw[bJ Q]at B;simp only[av,Array.getElem?_modify,if_true,Y,Option.map_some,Option.some.injEq]at F
        cases B;subst F;exact⟨K,hfz⟩
       ·rw[bI H]at B;simp only[av,Array.getElem?_modify,if_neg H]at F;exact u.2 i p M0 B (by simpa using F)
      ·rw[hps,List.map_set];have:(I.map (·.1)).set j y=I.map (·.1):=by
        apply List.ext_getElem?;intro i
        by_cases H:j=i
        ·subst H;have Q:j<(I.map (·.1)).length:=by simpa using(List.getElem?_eq_some_iff.1 c7).1
         rw[bJ Q,List.getElem?_map,c7];rfl
        ·rw[bI H]
       rw[this];exact S
    ·exact(ac e).elim
   ·exact(ac e).elim
  ·exact(ac e).elim
 ·exact(ac e).elim
end
variable {P:Program} {w0:W0} {w w':World} {Z0 Zp:aL} {h h':aD} {g:G} {new next base:Nat} {r:A} {L L':Log} {X:Cx}
theorem GW{t:TypeId}{V:VT}(T:r0 P t V):∃z,(zeroValue t).run P w= .ok z w∧VR w base Zp h g V.isAgg (V.cells V.zero) z:=by
 obtain⟨i,z,j,_,k,c,a⟩:=T.inf;refine⟨z,by simp[zeroValue,typeInfo,j,k],?_⟩;have b:bG w base Zp h g (V.cells V.zero) V.dJ:=VT.mA V T.nf;rw[←c]at b
 cases d:V.isAgg with
 |true=>
  rw[d]at a
  cases z<;>simp[xp]at a;rename_i l;exact⟨l.toList,by simp,b⟩
 |false=>
  rw[d]at a
  cases z<;>simp[xp]at a<;>exact b
theorem vF{β:Type}{k:Ty}(b:k.isKey=true){x:k.den}:∀l:List (k.den×β),(∀p∈l,p.1≠x)→n4 k.gS l x=none
 |[],_=>rfl
 |p::l,a=>by
  have c:k.gS x p.1=false:=by
   cases d:k.gS x p.1 with
   |false=>rfl
   |true=>exact absurd ((dN k _ _ b).1 d).symm (a p ct)
  simp only[n4,c];exact vF b l fun q i=>a q (bz _ i)
theorem vG{β:Type}{k:Ty}(b:k.isKey=true){x:k.den}{y:β}:∀(l:List (k.den×β)) (j:Nat),(l.map (·.1)).Nodup→l[j]? =some (x,y)→n4 k.gS l x=some y
 |[],j,_,a=>by simp at a
 |p::l,0,_,a=>by
  simp at a;subst a;simp only[n4,(dN k x x b).2 rfl]
 |p::l,j+1,c,a=>by
  have a:l[j]? =some (x,y):=by simpa using a
  simp only[aQ,List.nodup_cons]at c;have d:k.gS x p.1=false:=by
   cases i:k.gS x p.1 with
   |false=>rfl
   |true=>
    exfalso;apply c.1;rw[←(dN k _ _ b).1 i];exact List.mem_map.2 ⟨(x,y),bj a,rfl⟩
  simp only[n4,d];exact vG b l j c.2 a
theorem yJ{V:VT}{q:Option V.den}{ok:Bool}{a:aD}{vv:Value}(e:(Fc V q ok).eval next a L=some (r,h',L'))(b:VR w base Zp h g V.isAgg (V.cells (q.getD V.zero)) vv):
  h'=a∧AR w base Zp h g r (if ok then .tuple #[vv,.bool q.isSome]else vv):=by
 unfold Fc at e
 cases ok with
 |true=>
  cases cm e;exact⟨rfl,⟨[vv,.bool q.isSome],rfl,[vv],[.bool q.isSome],rfl,⟨vv,rfl,b⟩,[.bool q.isSome],[],rfl,⟨_,rfl,⟨_,[],rfl,rfl,rfl⟩⟩,rfl⟩⟩
 |false=>
  cases cm e;exact⟨rfl,b⟩
theorem BB(hX:pR P X.tt)(R:HR w0 Z0 Zp h g w){t tk tv:TypeId}{d:TD}(T:cn P t d)(hd:d.desc= .map tk tv){k:Ty}{V:VT}(hk:pY X tk=some k)(TV:r0 P tv V){x ix:A}{vx Y:Value}(hx:AR w w0.heap.size Zp h g x vx)(hi:AR w w0.heap.size Zp h g ix Y){ok:Bool}
  (e:(vd k V x ix ok).eval next h L=some (r,h',L')):h'=h∧∃u,(Instr.lookup t vx Y ok).run P w= .ok u w∧AR w w0.heap.size Zp h g r u:=by
 have U:=ll (P:=P) (w:=w) hX hk;have hu:=T.map hd;obtain⟨zz,hz1,hz2⟩:=GW (w:=w) (base:=w0.heap.size) (Zp:=Zp) (h:=h) (g:=g) TV;unfold vd at e
 split at e
 ·rename_i c z gg cs
  split at e
  ·rename_i y Da hy;have E:FV k y Y:=yE U.1 (by simpa using Da) hi hy;obtain⟨c1,_,c3⟩:=U.2 y Y E
   ·obtain⟨id,KA,O⟩:=aC e;subst KA;clear e;have e:=aR O
    split at e
    ·rename_i wr K H ho
     split at e
     ·rename_i H' hc;obtain⟨hK,hH⟩:=cB hc;subst hK;have hH:H'=H:=hH;subst hH;obtain⟨l,Z,e⟩:=aC e;have hid:H'[id]? =some (some l):=by
       unfold dI at Z
       split at Z
       ·rename_i q hq
        cases Z;exact hq
       ·cases Z
      obtain⟨g1,g2,b,N,clock,E0,MM,i,J⟩:=R.gh.ga c wr (.mp k V) H' id l ho hid;obtain⟨e0,o,rfl⟩:=hx.c;rw[E0]at o
      cases o;have I:∀D∈N.toList,∃y,FV k y D.key:=by
       intro D he;obtain⟨j,Q⟩:=List.mem_iff_getElem?.1 he;have F:j<N.toList.length:=(List.getElem?_eq_some_iff.1 Q).1;have a:j<l.length:=by rw[i];simpa using F
       exact⟨_,(J j l[j] D (ah a) (by simpa using Q)).1⟩
      obtain⟨W,c4,M⟩:=c3 N.toList I;have B:∀(vv:Value) (bb:Bool),((W.map (fun u=>(u.2,true))).getD (zz,false)=(vv,bb))→(Instr.lookup t (.map (some b)) Y ok).run P w= .ok (if ok then .tuple #[vv,.bool bb]else vv) w:=by
       intro vv bb n;simp only[Instr.lookup,Sem.run_bind,run_underlying hu,Result.andThen_ok,MapKept.run_getObj_map MM,Sem.run_pure,c1,c4]
       cases W with
       |none=>simp at n;obtain⟨rfl,rfl⟩:=n;simp[hz1]
       |some q=>obtain⟨q1,q2⟩:=q;simp at n;obtain⟨rfl,rfl⟩:=n;simp
      rcases M with⟨rfl,M⟩|⟨j,D,rfl,M,c6⟩
      ·have hno:∀p∈l,p.1≠y:=by
        intro p hp he;obtain⟨j,Q⟩:=List.mem_iff_getElem?.1 hp;have a:j<l.length:=(List.getElem?_eq_some_iff.1 Q).1;have S:j<N.size:=by rw[←i];exact a
        have:=(J j p N[j] Q (ag S)).1;rw[he]at this;exact M _ (Array.getElem_mem_toList S) (this.same E)
       rw[vF g1 l hno]at e;obtain⟨e1,O⟩:=yJ e hz2;exact⟨e1,_,B zz false rfl,O⟩
      ·have F:j<N.toList.length:=(List.getElem?_eq_some_iff.1 M).1;have a:j<l.length:=by rw[i];simpa using F
       obtain⟨m1,m2⟩:=J j l[j] D (ah a) (by simpa using M);rw[c6]at m1;have hy1:=m1.inj g1 E;have J6:l[j]? =some (y,l[j].2):=by rw[ah a,←hy1]
       rw[vG g1 l j g2 J6]at e;obtain⟨e1,O⟩:=yJ (vv:=D.val) e m2;exact⟨e1,_,B D.val true rfl,O⟩
     ·exact(ac e).elim
    ·exact(ac e).elim
  ·exact(ac e).elim
 ·exact(ac e).elim
theorem Et(R:HR w0 Z0 Zp h g w){t:TypeId}{k:Ty}{V:VT}(E:k.isKey=true){c:Nat}(e:(C3 c k V).eval next h L=some (r,h',L')):
  aM P w0 Z0 Zp h g w new (do pure (.value (←Instr.makeMap t none))) r h':=by
 unfold C3 at e;have e:=aR e
 split at e
 ·rename_i K H i
  split at e
  ·rename_i l B;obtain⟨z,n⟩:=cB B;subst z;have n:l=H:=n;subst n;have e:=bx e
   cases cm e;have u:(w.alloc (.map #[] 0)).heap=w.heap.push (.map #[] 0):=rfl;have a:(w.alloc (.map #[] 0)).heap[w.heap.size]? =some (.map #[] 0):=by rw[u];simp
   obtain⟨d,q⟩:∃d:G,d={ g with pm:=p3 g.pm c l.length (w.heap.size,0,0,0) }:=⟨_,rfl⟩;have b:d.pm c l.length=some (w.heap.size,0,0,0):=by rw[q];exact fm _ _ _ _
   obtain⟨y,L'⟩:=R.dl (K:=.mp k V) (x:=([]:List (k.den×V.den))) i u (R.ext.alloc _) (fun F h=>by cases h) q (fun _=>⟨E,List.nodup_nil,w.heap.size,#[],0,b,a,rfl,fun j p I D=>by simp[nth]at D⟩);refine⟨_,.map (some w.heap.size),_,d,?_,.inl rfl,y,L',AR.eU ⟨_,b,rfl⟩,fun o i=> .inl (by rw[q]at i;exact i)⟩;simp[Instr.makeMap,newObj,Sem.run]
  ·exact(ac e).elim
 ·exact(ac e).elim
theorem FD{cs a:List C}{b:Bool}{v:Value}(l:cs.all C.known=true)(k:VR w base Zp h g b cs v){j:aD}{d:G}(c:bG w base Zp j d a v.cells.toList):VR w base Zp j d b a v:=by
 cases b with
 |true=>obtain⟨n,rfl,i⟩:=k;exact⟨n,rfl,by simpa[Value.cells]using c⟩
 |false=>
  have i:v.oneCell'=true:=bG.one cs [v] l k v (by simp);have:v.cells= #[v]:=by cases v<;>simp[cq]at i<;>rfl
  rw[this]at c;exact c
theorem vH{β:Type}{k:Ty}(b:k.isKey=true){x:k.den}{z:β}:∀l:List (k.den×β),(∀p∈l,p.1≠x)→jK k.gS l x z=l++[(x,z)]
 |[],_=>rfl
 |p::l,a=>by
  have c:k.gS x p.1=false:=by
   cases d:k.gS x p.1 with
   |false=>rfl
   |true=>exact absurd ((dN k _ _ b).1 d).symm (a p ct)
  simp only[jK,c,bU];rw[vH b l fun q i=>a q (bz _ i)]
theorem vI{β:Type}{k:Ty}(b:k.isKey=true){x:k.den}{y z:β}:∀(l:List (k.den×β)) (j:Nat),(l.map (·.1)).Nodup→l[j]? =some (x,y)→jK k.gS l x z=l.set j (x,z)
 |[],j,_,a=>by simp at a
 |p::l,0,_,a=>by
  simp at a;subst a;simp only[jK,(dN k x x b).2 rfl,List.set_cons_zero]
 |p::l,j+1,c,a=>by
  have a:l[j]? =some (x,y):=by simpa using a
  simp only[aQ,List.nodup_cons]at c;have d:k.gS x p.1=false:=by
   cases i:k.gS x p.1 with
   |false=>rfl
   |true=>
    exfalso;apply c.1;rw[←(dN k _ _ b).1 i];exact List.mem_map.2 ⟨(x,y),bj a,rfl⟩
  simp only[jK,d,List.set_cons_succ];rw[vI b l j c.2 a]
theorem BC(hX:pR P X.tt)(R:HR w0 Z0 Zp h g w){t tk tv:TypeId}{d:TD}(T:cn P t d)(hd:d.desc= .map tk tv){k:Ty}{V:VT}(hk:pY X tk=some k){x ix a:A}{vx vi va:Value}(hx:AR w w0.heap.size Zp h g x vx)(hi:AR w w0.heap.size Zp h g ix vi)(ha:AR w w0.heap.size Zp h g a va)
  (e:(ve k V x ix a).eval next h L=some (r,h',L')):aM P w0 Z0 Zp h g w new (do Instr.mapUpdate t vx vi va;pure .skip) r h':=by
 have hkk:=ll (P:=P) (w:=w) hX hk;have hu:=T.map hd;unfold ve at e
 split at e
 ·rename_i c zi gg cs g' ds
  split at e
  ·rename_i y Da hy;simp only[ae,beq_iff_eq]at Da;obtain⟨⟨⟨zG,hkn⟩,GX⟩,M1⟩:=Da;subst GX;have Q:FV k y vi:=yE hkk.1 zG hi hy;obtain⟨c1,c2,c3⟩:=hkk.2 y vi Q;have ha:VR w w0.heap.size Zp h g V.isAgg ds va:=ha;have M2:=dL hkn ha;obtain⟨ds',h1,g1,L1,e,R1,Eg,M3,I9⟩:=cd ds _ h g L _ _ R M2 e;obtain⟨id,KA,e2⟩:=aC e;subst KA;clear e;have e:=e2;clear e2;have hx1:=AR.mono Eg _ _ hx;have e:=aR e
   split at e
   ·rename_i K H ho
    split at e
    ·rename_i H' z hc hz;obtain⟨hK,hH⟩:=cB hc;subst hK;have hH:H'=H:=hH;subst hH;obtain⟨l,hl,e⟩:=aC e;obtain⟨H2,I0,e⟩:=aC e;have e:=bx e
     cases cm e;obtain⟨_,rfl⟩:=nV I0;have hid:=cO hl;obtain⟨q1,q2,b,N,F,U,O,n,S⟩:=R1.gh.ga c true (.mp k V) H' id l ho hid;obtain⟨e0,Z,rfl⟩:=hx1.c;rw[U]at Z
     cases Z;have P8:=VT.eX M1 I9 hz;have I5:VR w w0.heap.size Zp h1 g1 V.isAgg (V.cells z) va:=FD hkn ha P8;have hkeys:∀I∈N.toList,∃y,FV k y I.key:=by
      intro I B;obtain⟨j,Y⟩:=List.mem_iff_getElem?.1 B;have Mj:j<N.toList.length:=(List.getElem?_eq_some_iff.1 Y).1;have D:j<l.length:=by rw[n];simpa using Mj
      exact⟨_,(S j l[j] I (ah D) (by simpa using Y)).1⟩
     obtain⟨res,c4,c5⟩:=c3 N.toList hkeys;have fin:∀(J:Array MapEntry) (u:Nat),(Instr.mapUpdate t (.map (some b)) vi va).run P w= .ok () { w with heap:=w.heap.setIfInBounds b (.map J u) }→((jK k.gS l y z).map (·.1)).Nodup→(jK k.gS l y z).length=J.size→
       (∀(j:Nat) (p:k.den×V.den) (I:MapEntry),(jK k.gS l y z)[j]? =some p→J[j]? =some I→FV k p.1 I.key∧VR w w0.heap.size Zp h1 g1 V.isAgg (V.cells p.2) I.val)→
       aM P w0 Z0 Zp h g w new (do Instr.mapUpdate t (.map (some b)) vi va;pure .skip) gR ((c,.gh true (.mp k V) (H'.set id (some (jK k.gS l y z))))::h1):=by
      intro J u hrun hnd M4 W;have hs:=heap_set (o':=Obj.map J u) O;obtain⟨R',M5⟩:=R1.n5 (w':={ w with heap:=w.heap.setIfInBounds b (.map J u) }) (K:=.mp k V) (x:=(jK k.gS l y z:List (k.den×V.den))) ho hid U rfl (fun c hc=>hs.2 c hc) (by simp)
       (by
        rcases R1.gh.own c (.mp k V) H' id l _ ho hid U with hb |hb
        ·exact gY R1.ext rfl rfl rfl (by simp) (fun i hi _=>hs.2 i (by simp only at hb;omega))
        ·exact gY R1.ext rfl rfl rfl (by simp) (fun i hi hn=>hs.2 i (fun h=>hn (by rw[h];exact hb))))
       (fun L2=>⟨q1,hnd,b,J,u,U,hs.1,M4,fun j p I Y B=>⟨(W j p I Y B).1,VR.mono L2 _ _ _ (W j p I Y B).2⟩⟩)
      exact aM.behind Eg (fun o ho=>M3.al▸ho) ⟨.skip,undef,_,_,by simp[hrun],.inr ⟨rfl,rfl⟩,R',M5,AR.skip,fun o ho=> .inl ho⟩
     rcases c5 with⟨rfl,c5⟩|⟨j,I,rfl,c5,c6⟩
     ·have hno:∀p∈l,p.1≠y:=by
       intro p E B;obtain⟨j,Y⟩:=List.mem_iff_getElem?.1 E;have D:j<l.length:=(List.getElem?_eq_some_iff.1 Y).1;have KB:j<N.size:=by rw[←n];exact D
       have:=(S j p N[j] Y (ag KB)).1;rw[B]at this;exact c5 _ (Array.getElem_mem_toList KB) (this.same Q)
      have DT:=vH (z:=z) q1 l hno;refine fin (N.push { key:=vi,val:=va,born:=F }) (F+1) ?_ ?_ ?_ ?_
      ·simp only[Instr.mapUpdate,Sem.run_bind,run_underlying hu,Result.andThen_ok,MapKept.run_getObj_map O,c1,c4];exact MapKept.run_setObj_map _ O
      ·rw[DT,List.map_append,List.nodup_append];refine⟨q2,by simp,fun q hq q' hq'=> ?_⟩;simp at hq';subst hq';obtain⟨p,E,rfl⟩:=List.mem_map.1 hq;exact hno p E
      ·have n:l.length=N.size:=n;rw[DT];simp[n]
      ·have n:l.length=N.size:=n;rw[DT];intro i p I E B
       by_cases hi:i<l.length
       ·rw[aH hi]at E;rw[Array.getElem?_push_lt (by omega)]at B;exact S i p I E (by rw[ag (by omega)];exact B)
       ·rw[aY (by omega)]at E;have hi2:i=l.length:=by
         rcases cx (i -l.length) 1 with h |h
         ·omega
         ·rw[bM (by simpa using h)]at E;cases E
        subst hi2;rw[n]at B;simp at E B;subst E B;exact⟨Q,I5⟩
     ·have Mj:j<N.toList.length:=(List.getElem?_eq_some_iff.1 c5).1;have D:j<l.length:=by rw[n];simpa using Mj
      obtain⟨m1,m2⟩:=S j l[j] I (ah D) (by simpa using c5);rw[c6]at m1;have hy1:=m1.inj q1 Q;have J6:l[j]? =some (y,l[j].2):=by rw[ah D,←hy1]
      have hps:=vI (z:=z) q1 l j q2 J6;have OJ:N[j]? =some I:=by simpa using c5
      refine fin (N.modify j fun e=>{ e with key:=vi,val:=va }) F ?_ ?_ ?_ ?_
      ·simp only[Instr.mapUpdate,Sem.run_bind,run_underlying hu,Result.andThen_ok,MapKept.run_getObj_map O,c1,c4,OJ,Option.map_some,Option.getD_some,c6,c2];exact MapKept.run_setObj_map _ O
      ·rw[hps,List.map_set];have:(l.map (·.1)).set j y=l.map (·.1):=by
        apply List.ext_getElem?;intro i
        by_cases M:j=i
        ·subst M;rw[bJ (by simpa using D),List.getElem?_map,J6];rfl
        ·rw[bI M]
       rw[this];exact q2
      ·have n:l.length=N.size:=n;rw[hps];simp[n]
      ·rw[hps];intro i p M0 E B
       by_cases M:j=i
       ·subst M;rw[bJ D]at E
        cases E;rw[Array.getElem?_modify,if_pos rfl,OJ]at B
        cases B;exact⟨Q,I5⟩
       ·rw[bI M]at E;rw[Array.getElem?_modify,if_neg M]at B;exact S i p M0 E B
    ·exact(ac e).elim
   ·exact(ac e).elim
  ·exact(ac e).elim
 ·exact(ac e).elim
theorem gt{tk a:TypeId}{k:Ty}{V:VT}(hm:nQ X tk a=some (k,V)):pY X tk=some k∧ba a X.la=some V:=by
 unfold nQ at hm
 split at hm
 ·rename_i b c;cases hm;exact⟨b,c⟩
 ·cases hm
theorem vJ{β:Type}{k:Ty}(b:k.isKey=true){x:k.den}:∀l:List (k.den×β),(∀p∈l,p.1≠x)→tO k.gS l x=l
 |[],_=>rfl
 |p::l,a=>by
  have c:k.gS x p.1=false:=by
   cases d:k.gS x p.1 with
   |false=>rfl
   |true=>exact absurd ((dN k _ _ b).1 d).symm (a p ct)
  simp only[tO,c];rw[vJ b l fun q i=>a q (bz _ i)]
theorem vK{β:Type}{k:Ty}(b:k.isKey=true){x:k.den}{y:β}:∀(l:List (k.den×β)) (j:Nat),(l.map (·.1)).Nodup→l[j]? =some (x,y)→tO k.gS l x=l.eraseIdx j
 |[],j,_,a=>by simp at a
 |p::l,0,_,a=>by
  simp at a;subst a;simp only[tO,(dN k x x b).2 rfl,List.eraseIdx_cons_zero]
 |p::l,j+1,c,a=>by
  have a:l[j]? =some (x,y):=by simpa using a
  simp only[aQ,List.nodup_cons]at c;have d:k.gS x p.1=false:=by
   cases i:k.gS x p.1 with
   |false=>rfl
   |true=>
    exfalso;apply c.1;rw[←(dN k _ _ b).1 i];exact List.mem_map.2 ⟨(x,y),bj a,rfl⟩
  simp only[tO,d,List.eraseIdx_cons_succ];rw[vK b l j c.2 a]
theorem FE{α:Type}{b:Array α}{a:α}{r:List α}(h:b.toList=a::r):b[0]? =some a:=by
 have:b=(a::r).toArray:=by rw[←h]
 rw[this];simp
theorem BD(hX:pR P X.tt)(R:HR w0 Z0 Zp h g w){ts:Array TypeId}{t tk tv ty:TypeId}{d:TD}(hts:ts[0]? =some t)(T:cn P t d)(hd:d.desc= .map tk tv){k:Ty}{V:VT}(hk:pY X tk=some k){x ix:A}{vx vi:Value}(hx:AR w w0.heap.size Zp h g x vx)(hi:AR w w0.heap.size Zp h g ix vi)
  (e:(vf k V x ix).eval next h L=some (r,h',L')):aM P w0 Z0 Zp h g w new (do pure (.value (←Builtin.delete_ ts ty #[vx,vi]))) r h':=by
 have hkk:=ll (P:=P) (w:=w) hX hk;have hu:=T.map hd;unfold vf at e
 split at e
 ·rename_i c zi gg cs
  split at e
  ·rename_i y Da hy;have Z:FV k y vi:=yE hkk.1 (by simpa using Da) hi hy;obtain⟨c1,c2,c3⟩:=hkk.2 y vi Z;obtain⟨id,KA,e2⟩:=aC e;subst KA;clear e;have e:=aR e2
   split at e
   ·rename_i K H ho
    split at e
    ·rename_i H' hc;obtain⟨hK,hH⟩:=cB hc;subst hK;have hH:H'=H:=hH;subst hH;obtain⟨l,hl,e⟩:=aC e;obtain⟨H2,I0,e⟩:=aC e;have e:=bx e
     cases cm e;obtain⟨_,rfl⟩:=nV I0;have hid:=cO hl;obtain⟨q1,q2,b,E,F,O,J,n,N⟩:=R.gh.ga c true (.mp k V) H' id l ho hid;obtain⟨e0,W,rfl⟩:=hx.c;rw[O]at W
     cases W;have hkeys:∀q∈E.toList,∃y,FV k y q.key:=by
      intro q S;obtain⟨j,U⟩:=List.mem_iff_getElem?.1 S;have M:j<E.toList.length:=(List.getElem?_eq_some_iff.1 U).1;have B:j<l.length:=by rw[n];simpa using M
      exact⟨_,(N j l[j] q (ah B) (by simpa using U)).1⟩
     obtain⟨res,c4,c5⟩:=c3 E.toList hkeys;have fin:∀(u:Array MapEntry) (a:Nat),(Builtin.delete_ ts ty #[.map (some b),vi]).run P w= .ok (.tuple #[]) { w with heap:=w.heap.setIfInBounds b (.map u a) }→((tO k.gS l y).map (·.1)).Nodup→(tO k.gS l y).length=u.size→
       (∀(j:Nat) (p:k.den×V.den) (q:MapEntry),(tO k.gS l y)[j]? =some p→u[j]? =some q→FV k p.1 q.key∧VR w w0.heap.size Zp h g V.isAgg (V.cells p.2) q.val)→
       aM P w0 Z0 Zp h g w new (do pure (.value (←Builtin.delete_ ts ty #[.map (some b),vi]))) gR ((c,.gh true (.mp k V) (H'.set id (some (tO k.gS l y))))::h):=by
      intro u a hrun hnd M4 Q;have hs:=heap_set (o':=Obj.map u a) J;obtain⟨R',M5⟩:=R.n5 (w':={ w with heap:=w.heap.setIfInBounds b (.map u a) }) (K:=.mp k V) (x:=(tO k.gS l y:List (k.den×V.den))) ho hid O rfl (fun c hc=>hs.2 c hc) (by simp)
       (by
        rcases R.gh.own c (.mp k V) H' id l _ ho hid O with hb |hb
        ·exact gY R.ext rfl rfl rfl (by simp) (fun i hi _=>hs.2 i (by simp only at hb;omega))
        ·exact gY R.ext rfl rfl rfl (by simp) (fun i hi hn=>hs.2 i (fun h=>hn (by rw[h];exact hb))))
       (fun L2=>⟨q1,hnd,b,u,a,O,hs.1,M4,fun j p q U S=>⟨(Q j p q U S).1,VR.mono L2 _ _ _ (Q j p q U S).2⟩⟩)
      exact⟨_,.tuple #[],_,_,by simp[hrun],.inl rfl,R',M5,⟨[],rfl,rfl⟩,fun o ho=> .inl ho⟩
     have z:∀(j:Nat) (p:k.den×V.den) (q:MapEntry),l[j]? =some p→E[j]? =some q→FV k p.1 q.key∧VR w w0.heap.size Zp h g V.isAgg (V.cells p.2) q.val:=N
     rcases c5 with⟨rfl,c5⟩|⟨j,q,rfl,c5,c6⟩
     ·have hno:∀p∈l,p.1≠y:=by
       intro p hp S;obtain⟨j,U⟩:=List.mem_iff_getElem?.1 hp;have B:j<l.length:=(List.getElem?_eq_some_iff.1 U).1;have KB:j<E.size:=by rw[←n];exact B
       have:=(N j p E[j] U (ag KB)).1;rw[S]at this;exact c5 _ (Array.getElem_mem_toList KB) (this.same Z)
      have D:=vJ q1 l hno;refine fin E F ?_ ?_ ?_ ?_
      ·simp[Builtin.delete_,hts,run_underlying hu,MapKept.run_getObj_map J,c1,c4,MapKept.run_setObj_map _ J]
      ·rw[D];exact q2
      ·rw[D];exact n
      ·rw[D];exact z
     ·have M:j<E.toList.length:=(List.getElem?_eq_some_iff.1 c5).1;have B:j<l.length:=by rw[n];simpa using M
      have OL:j<E.size:=by simpa using M
      obtain⟨m1,m2⟩:=N j l[j] q (ah B) (by simpa using c5);rw[c6]at m1;have hy1:=m1.inj q1 Z;have J6:l[j]? =some (y,l[j].2):=by rw[ah B,←hy1]
      have D:=vK q1 l j q2 J6;have n:l.length=E.size:=n;refine fin (E.eraseIdxIfInBounds j) F ?_ ?_ ?_ ?_
      ·simp[Builtin.delete_,hts,run_underlying hu,MapKept.run_getObj_map J,c1,c4,MapKept.run_setObj_map _ J]
      ·rw[D];exact List.Nodup.sublist ((List.eraseIdx_sublist l j).map _) q2
      ·rw[D,List.length_eraseIdx_of_lt B];simp[Array.eraseIdxIfInBounds,OL,n]
      ·rw[D];intro i p Y hp S;have I:(E.toList.eraseIdx j)[i]? =some Y:=by
        rw[←S];simp only[Array.eraseIdxIfInBounds,OL,dif_pos];rw[←av,Array.toList_eraseIdx]
       rw[List.getElem?_eraseIdx]at hp I
       split at hp
       ·rename_i hij;rw[if_pos hij]at I;exact z i p Y hp (by simpa using I)
       ·rename_i hij;rw[if_neg hij]at I;exact z (i+1) p Y hp (by simpa using I)
    ·exact(ac e).elim
   ·exact(ac e).elim
  ·exact(ac e).elim
 ·exact(ac e).elim
section
variable {P:Program} {w0:W0} {w w':World} {Z0 Zp:aL} {h h':aD} {g:G} {new next base:Nat} {r:A} {L L':Log} {X:Cx}
def zL:Op→Bool
 |.call c=>match c.callee with
  |.value _=>true
  |_=>false
 |_=>false
theorem kP{t c:TypeId}(b:P.underlying t=some (.pointer c))(a:Option Addr)(d:Nat):(Op.equalIn (d+1) t (.pointer a) (.pointer none)).run P w= .ok a.isNone w:=by
 unfold Op.equalIn;rw[Sem.run_bind,run_underlying b]
 cases a<;>rfl
theorem vL{op:BinOp}{t:TypeId}{d:TD}(T:cn P t d){x y:Operand}{nil sl:Bool}{E:A}{i k:Value}(B:match sl with |false=>∃a,i= .pointer a∧a.isNone=nil |true=>∃a n c,i= .slice a n c∧a.isNone=nil)
  (D:AR w base Zp h g E k) (e:(rV sl op d nil E).eval next h L=some (r,h',L')):
  h'=h∧∃c v,r= .v false [c]∧(do eqGuard op t x y i k;binOp op t i k:Sem Value).run P w= .ok v w∧CR w base Zp h g c v:=by
 unfold rV at e;have go:∀u:Value,(eqGuard .eql t x y i u).run P w= .ok () w→(eqGuard .neq t x y i u).run P w= .ok () w→(Op.equal t i u).run P w= .ok nil w→k=u→(binOp .eql t i u).run P w= .ok (.bool nil) w→(binOp .neq t i u).run P w= .ok (.bool (!nil)) w→(rV.go op nil).eval next h L=some (r,h',L')→
   h'=h∧∃c v,r= .v false [c]∧(do eqGuard op t x y i k;binOp op t i k:Sem Value).run P w= .ok v w∧CR w base Zp h g c v:=by
  intro u p o K F H I e;subst F;unfold rV.go at e
  split at e
  ·obtain⟨rfl,rfl,_⟩:=dk e;exact⟨rfl,_,_,rfl,by simp only[Sem.run_bind,p,Result.andThen_ok];exact H,rfl⟩
  ·obtain⟨rfl,rfl,_⟩:=dk e;exact⟨rfl,_,_,rfl,by simp only[Sem.run_bind,o,Result.andThen_ok];exact I,rfl⟩
  ·exact(ac e).elim
 split at e
 ·rename_i z l;obtain⟨a,n,c,rfl,q⟩:=B;have b:=D.c;have b:k= .slice none 0 0:=b;have j:=Go.run_equal_slice_nil w t z a n c (T.slice l);rw[q]at j;exact go _ (by simp[eqGuard]) (by simp[eqGuard]) j b (by simp[binOp,j]) (by simp[binOp,j]) e
 ·rename_i z l;obtain⟨a,rfl,q⟩:=B;have b:=D.c;have b:k= .pointer none:=b;have J:P.underlying t=some (.pointer z):=by
   obtain⟨y,p,o⟩:=T.under;rw[l]at o
   cases y<;>simp[jb]at o;rw[p,o]
  have j:(Op.equal t (.pointer a) (.pointer none)).run P w= .ok nil w:=by
   rw[←q];exact kP J a 9999
  exact go _ (by simp[eqGuard]) (by simp[eqGuard]) j b (by simp[binOp,j]) (by simp[binOp,j]) e
 ·exact(ac e).elim
theorem Eu{a:A}{c o:Nat}{z:Option Nat}(h:IF a=some (c,o,z)):a= .v false [.gp c o z]:=by
 unfold IF at h
 split at h
 ·cases h;rfl
 ·cases h
theorem FF(hX:pR P X.tt)(R:HR w0 Z0 Zp h g w){op:BinOp}{t:TypeId}{d:TD}(T:cn P t d){x y:Operand}{c o c' o':Nat}{z z':Option Nat}{F l:Value}(hx:CR w w0.heap.size Zp h g (.gp c o z) F)(E:CR w w0.heap.size Zp h g (.gp c' o' z') l)
  (e:(Fe X op d c o z (c',o',z')).eval next h L=some (r,h',L')):
  h'=h∧∃c v,r= .v false [c]∧(do eqGuard op t x y F l;binOp op t F l:Sem Value).run P w= .ok v w∧CR w w0.heap.size Zp h g c v:=by
 unfold Fe at e
 split at e
 ·rename_i te GO J;rw[ae]at J;have e1:=af J.1;have e2:=af J.2;simp only at e1 e2;subst e1 e2;obtain⟨de,P9,Te,e⟩:=aV hX e
  split at e
  ·rename_i B;have B:0<de.size:=by simpa[b9]using B
   have e:=aR e
   split at e
   ·rename_i wr V H ho;obtain⟨b,n,e⟩:=aC e;have hu:P.underlying t=some (.pointer te):=by
     obtain⟨y,h1,h2⟩:=T.under;rw[GO]at h2
     cases y<;>simp[jb]at h2;rw[h1,h2]
    obtain⟨j,hj,Mj,_⟩:=Te.inf;have go:(∃Z a,F= .pointer Z∧l= .pointer a)→(binOp .eql t F l).run P w= .ok (.bool b) w→h'=h∧∃c v,r= .v false [c]∧(do eqGuard op t x y F l;binOp op t F l:Sem Value).run P w= .ok v w∧CR w w0.heap.size Zp h g c v:=by
     rintro⟨Z,a,rfl,rfl⟩ D
     split at e
     ·obtain⟨rfl,rfl,_⟩:=dk e;exact⟨rfl,_,_,rfl,by simp[eqGuard,D],rfl⟩
     ·obtain⟨rfl,rfl,_⟩:=dk e;have Q:(Op.equal t (.pointer Z) (.pointer a)).run P w= .ok b w:=by
       simp only[binOp,Sem.run_bind]at D
       cases Q:(Op.equal t (.pointer Z) (.pointer a)).run P w with
       |ok b' w'=>rw[Q]at D;simp at D;rw[D.1,D.2]
       |_=>rw[Q]at D;simp[Result.andThen]at D
      exact⟨rfl,_,_,rfl,by simp[eqGuard,binOp,Q],rfl⟩
     ·exact(ac e).elim
    have p:∀a:Option Addr,(binOp .eql t (.pointer none) (.pointer a)).run P w= .ok (.bool a.isNone) w:=fun a=>by
     have h9:∀d:Nat,(Op.equalIn (d+1) t (.pointer none) (.pointer a)).run P w= .ok a.isNone w:=fun d=>by
      simp[Op.equalIn,run_underlying hu]
     simp only[binOp];simp[Op.equal,Op.maxDepth,h9 9999]
    cases z with
    |none=>
     have hx:F= .pointer none:=hx;subst hx
     cases z' with
     |none=>
      have E:l= .pointer none:=E;subst E
      cases n;exact go ⟨_,_,rfl,rfl⟩ (p none)
     |some j'=>
      obtain⟨q,_,_,rfl⟩:=E
      cases n;exact go ⟨_,_,rfl,rfl⟩ (p (some _))
    |some i=>
     obtain⟨q,Q,_,rfl⟩:=hx
     cases z' with
     |none=>
      have E:l= .pointer none:=E;subst E
      cases n;refine go ⟨_,_,rfl,rfl⟩ ?_;have:=kP (P:=P) (w:=w) hu (some ⟨q.1,o,none⟩) 9999;simp only[binOp];simp[Op.equal,Op.maxDepth,this]
     |some Y=>
      obtain⟨q',S,_,rfl⟩:=E;unfold CW at n;simp only at n
      split at n
      ·rename_i u u' U W
       cases n;obtain⟨_,b1,Qa,Qb,Sj,O,K,_⟩:=R.gh.ga c wr (.st V) H i u ho (cO U);obtain⟨_,b2,MO,Qc,Sk,k,M,_⟩:=R.gh.ga c wr (.st V) H Y u' ho (cO W);rw[O]at Q;cases Q;rw[k]at S;cases S;refine go ⟨_,_,rfl,rfl⟩ ?_
       by_cases N:i=Y
       ·subst N;rw[O]at k;cases k;have Qd:aJ i i=true:=Nat.beq_refl i;rw[Qd];exact run_eql_ptr_same w _ hu hj
       ·have Qe:aJ i Y=false:=by
         cases I:aJ i Y with
         |false=>rfl
         |true=>exact absurd (af I) N
        rw[Qe];refine run_eql_ptr_other w hu hj (by omega) (fun hab=>N ?_) K M;have I:b1=b2:=by injection hab
        exact(R.gh.ei c i c Y b1 ⟨wr,.st V,H,u,_,ho,cO U,O,rfl⟩ ⟨wr,.st V,H,u',_,ho,cO W,k,I.symm⟩).2
      ·cases n
   ·exact(ac e).elim
  ·exact(ac e).elim
 ·exact(ac e).elim
theorem pG{env:Env}{a:Act}(p:∀t,AR w base Zp h g (look ar t env) (a.tmps.getD t undef)){i:A×aD×Log}:∀(j:List Operand) (k:List (Nat×Nat)→List Nat→HM) (L:Log),(u9 (j.map (jJ env)) k).eval next h L=some i→
  ∃l b n,(k l b).eval next h n=some i∧iL g.pm l b (j.map a.eval)
 |[],k,L,e=>⟨[],[],L,e,rfl⟩
 |x::j,k,L,e=>by
  have u:=bo p x;rw[aQ]at e;unfold u9 at e
  split at e
  ·rename_i y;cases y
  ·rename_i c J z K k d;rw[List.cons.injEq]at d;obtain⟨B,D⟩:=d;subst D;rw[B]at u;obtain⟨id,o,e⟩:=aC e;subst o;obtain⟨q,E,F,H⟩:=u.c;obtain⟨l,b,n,e,I⟩:=pG p j _ _ e;exact⟨_,_,n,e,q,_,by rw[aQ,H],⟨E,F⟩,I⟩
  ·exact(ac e).elim
theorem GY(E:pR P X.tt)(hV:xq P X.la)(R:HR w0 Z0 Zp h g w)(hn:¬ g.al new){env:Env}{a:Act}(B:∀t,AR w w0.heap.size Zp h g (look ar t env) (a.tmps.getD t undef)){o:Oper}(S:zL o.op=false)
  (e:(EZ X new (jJ env) o.op).eval next h L=some (r,h',L')):aM P w0 Z0 Zp h g w new (execOp a.eval o) r h':=by
 unfold execOp
 cases hop:o.op<;>rw[hop]at e S<;>simp only[EZ]at e
 case move x=>rw[DL]at e;cases cm e;exact aM.pure R (v:=a.eval x) rfl (bo B x)
 case assign x=>rw[DL]at e;cases cm e;exact aM.pure R (v:=a.eval x) rfl (bo B x)
 case pick c x y=>
  have U:=bo B c
  split at e
  ·rename_i t ht;rw[ht]at U;have U:=U.c;simp only[CR]at U;rw[DL,DL]at e
   cases t<;>simp only[HM.eval]at e<;>cases e
   ·exact aM.pure R (v:=a.eval y) (by simp[U,asBool]) (bo B y)
   ·exact aM.pure R (v:=a.eval x) (by simp[U,asBool]) (bo B x)
  ·exact(ac e).elim
 case alloc t=>
  obtain⟨d,N,T,e⟩:=aV E e
  split at e
  ·rename_i c V U Q;have e:=aR e
   split at e
   ·rename_i K H ho
    split at e
    ·rename_i H' hH;obtain⟨hK,rfl⟩:=cB hH;subst hK;obtain⟨rfl,rfl,_⟩:=aS (bx e);exact Dd R (hV.get Q) ho
    ·exact(ac e).elim
   ·exact(ac e).elim
  ·exact(ac e).elim
  ·split at e
   ·rename_i hz;obtain⟨τ,hτ,e⟩:=ia e;obtain⟨rfl,rfl,_⟩:=aS (bx e);exact Ei R hn T hz hτ
   ·exact(ac e).elim
 case box t x=>
  obtain⟨d,N,T,e⟩:=aV E e;have J:=bo B x
  split at e
  ·rename_i gg cs D
   split at e
   ·rename_i U;simp only[ae]at U;rw[D]at J
    split at e
    ·rename_i c V CU Q;have M2:=dL U.1.2 J;obtain⟨cs',F,g1,L1,e,R1,Eg,zG,I9⟩:=cd cs _ h g L _ _ R M2 e;have e:=aR e
     split at e
     ·rename_i K H ho
      split at e
      ·rename_i H' z hH hz _;obtain⟨hK,rfl⟩:=cB hH;subst hK;obtain⟨rfl,rfl,_⟩:=aS (bx e);exact aM.behind Eg (fun o ho=>zG.al▸ho) (Fx R1 (hV.get Q) ho I9 hz)
      ·exact(ac e).elim
     ·exact(ac e).elim
    ·exact(ac e).elim
    ·obtain⟨rfl,rfl,_⟩:=aS (bx e);exact GP R hn U.1.2 J
   ·exact(ac e).elim
  ·exact(ac e).elim
 case build t parts=>
  obtain⟨d,N,T,e⟩:=aV E e
  split at e
  ·rename_i fs p hz
   split at e
   ·rename_i V Q
    split at e
    ·rename_i pl Bn
     split at e
     ·rename_i cs hcs
      cases cm e;exact xu E R T p (hV.get Q) Bn B hcs
     ·exact(ac e).elim
    ·exact(ac e).elim
   ·exact(ac e).elim
  ·rename_i fs p hz;obtain⟨τ,hτ,e⟩:=ia e
   split at e
   ·rename_i pl Bn
    split at e
    ·rename_i cs hcs
     cases cm e;exact zJ E R T p hz hτ Bn B hcs
    ·exact(ac e).elim
   ·exact(ac e).elim
  ·rename_i n te p hz;obtain⟨τ,hτ,e⟩:=ia e;obtain⟨de,GO,Te,e⟩:=aV E e
   split at e
   ·rename_i cs hcs
    cases cm e;exact Bm R T Te p hz hτ B hcs
   ·exact(ac e).elim
  ·exact(ac e).elim
 case buildSlice t len parts=>
  obtain⟨d,N,T,e1⟩:=aV E e;clear e
  split at e1
  ·rename_i te p;obtain⟨de,GO,Te,e2⟩:=aV E e1;clear e1
   split at e2
   ·rename_i Sl hps;have hps:parts= #[]:=Array.toList_eq_nil_iff.1 hps;subst hps
    split at e2
    ·rename_i V Q;have e3:=aR e2
     split at e3
     ·rename_i K H ho
      split at e3
      ·rename_i H' hH;obtain⟨hK,rfl⟩:=cB hH;subst hK;obtain⟨rfl,rfl,_⟩:=aS (bx e3);exact De R T Te p (hV.get Q) ho (by simp)
      ·exact(ac e3).elim
     ·exact(ac e3).elim
    ·exact(ac e2).elim
   ·obtain⟨τ,hτ,e3⟩:=ia e2
    split at e3
    ·rename_i U;exact vu R hn T Te p hτ B U e3
    ·exact(ac e3).elim
  ·exact(ac e1).elim
 case load t x=>
  obtain⟨d,N,T,e⟩:=aV E e;obtain⟨rfl,u,F,I⟩:=r2 R T (bo B x) e;exact aM.val R F I
 case store t x y=>
  obtain⟨d,N,T,e⟩:=aV E e;exact Ej R T (bo B x) (bo B y) e
 case nilCheck x=>
  obtain⟨rfl,b,off,hv,Mk⟩:=vo (bo B x) e;simp only[b8]at Mk;refine aM.pure R (v:=.pointer (some ⟨b,off,none⟩)) ?_ Mk;simp[hv]
 case binOp op t x y ty=>
  have J:=bo B x;have hy:=bo B y
  split at e
  ·rename_i b D;obtain⟨d,N,T,e⟩:=aV E e
   split at e
   ·rename_i p;have hu:P.underlying t=some .bool:=by
     obtain⟨y,F,I⟩:=T.under;rw[p]at I
     cases y<;>simp[jb]at I;exact F
    rw[←D]at e;obtain⟨rfl,c,v,rfl,F,I⟩:=Be (P:=P) (t:=t) (x:=x) (y:=y) (fun _ _ _ _=>hu) J hy e;exact aM.val R F (AR.eU I)
   ·exact(ac e).elim
  ·rename_i cs D;obtain⟨d,N,T,e⟩:=aV E e;rw[D]at J;obtain⟨rfl,c,v,rfl,F,I⟩:=GU (P:=P) (x:=x) (y:=y) T J hy e;exact aM.val R F (AR.eU I)
  ·rename_i Sm l1 tk D;obtain⟨d,N,T,e⟩:=aV E e;rw[D]at J;obtain⟨rfl,c,v,rfl,F,I⟩:=FC (P:=P) (x:=x) (y:=y) T J hy e;exact aM.val R F (AR.eU I)
  ·rename_i c1 o1 z D;obtain⟨d,N,T,e⟩:=aV E e;rw[D]at J;have hp:∃a':Option Addr,a.eval x= .pointer a'∧a'.isNone=z.isNone:=by
    cases z with
    |none=>exact⟨none,J.c,rfl⟩
    |some id=>obtain⟨q,_,_,hv⟩:=J.c;exact⟨_,hv,rfl⟩
   split at e
   ·rename_i q hq;obtain⟨q1,q2,q3⟩:=q;have Qf:=Eu hq;rw[Qf]at hy;obtain⟨rfl,c,v,rfl,F,I⟩:=FF (P:=P) (x:=x) (y:=y) E R T J.c hy.c e;exact aM.val R F (AR.eU I)
   ·obtain⟨rfl,c,v,rfl,F,I⟩:=vL (P:=P) (x:=x) (y:=y) T hp hy e;exact aM.val R F (AR.eU I)
  ·rename_i c1 z D;obtain⟨d,N,T,e⟩:=aV E e;rw[D]at J;have hp:∃(a':Option Addr) (n c:Nat),a.eval x= .slice a' n c∧a'.isNone=z.isNone:=by
    cases z with
    |none=>exact⟨none,0,0,J.c,rfl⟩
    |some q=>obtain⟨id,a0,n0⟩:=q;obtain⟨_,_,_,_,_,_,_,_,hv⟩:=J.c;exact⟨_,_,_,hv,rfl⟩
   obtain⟨rfl,c,v,rfl,F,I⟩:=vL (P:=P) (x:=x) (y:=y) T hp hy e;exact aM.val R F (AR.eU I)
  ·rename_i hnb _ _ _ _;obtain⟨rfl,c,v,rfl,F,I⟩:=Be (P:=P) (t:=t) (x:=x) (y:=y) (fun b _ hb _=>absurd hb (hnb b)) J hy e;exact aM.val R F (AR.eU I)
 case unOp op t x=>
  obtain⟨rfl,c,v,rfl,F,I⟩:=GG (P:=P) (bo B x) e;exact aM.val R F (AR.eU I)
 case convert src dst x=>
  obtain⟨d1,Sn,T1,e⟩:=aV E e;obtain⟨d,N,T,e⟩:=aV E e;have J:=bo B x
  split at e
  ·rename_i k k' n p D;rw[D]at J;have KC:=J.c;simp only[CR]at KC;obtain⟨rfl,rfl,_⟩:=cu e;obtain⟨y,hy,_⟩:=T1.under;refine aM.val R (v:=.int k (k.wrap n)) ?_ (AR.eU rfl);simp[convert,run_underlying hy,run_underlying (T.int p),KC,Conv.intToInt]
  ·rename_i c0 p D;rw[D]at J
   split at e
   ·rename_i te hs;obtain⟨de,GO,Te,e⟩:=aV E e
    split at e
    ·rename_i OM;obtain⟨c',L1,e,M6⟩:=ow R J.c e
     split at e
     ·rename_i l tk;obtain⟨rfl,rfl,_⟩:=aS e;exact aM.val R (Es (T1.slice hs) (Te.int OM) (T.string p) M6.1) (AR.eU rfl)
     ·obtain⟨rfl,rfl,_⟩:=aS e;simp only[CR]at M6;have hr:=run_convert_bytes_nil (P:=P) w src te (T1.slice hs) (Te.int OM) 0 0 dst (T.string p);rw[←M6]at hr;exact aM.val R hr (AR.eU rfl)
     ·exact(ac e).elim
    ·exact(ac e).elim
   ·exact(ac e).elim
  ·exact(ac e).elim
 case makeFunc fn first captured=>
  cases fn<;>simp only at e<;>try (exact(ac e).elim)
  rename_i f
  split at e
  ·rename_i ids h0 M7;obtain⟨rfl,rfl,_⟩:=aS e;have W:first= #[]:=Array.eq_empty_of_size_eq_zero h0
   have:=vB R B captured.toList ids (by simpa using M7);refine aM.pure R (v:=.func (.func f) #[] (captured.map a.eval)) (by simp[Instr.makeFunc,W]) (AR.eU ⟨_,rfl,by simpa using this⟩)
  ·obtain⟨l,ids,L1,e,F⟩:=pG B first.toList _ _ e;obtain⟨m,So,L2,e,I⟩:=pG B captured.toList _ _ e;obtain⟨rfl,rfl,_⟩:=aS e;exact aM.pure R (v:=.func (.func f) (first.map a.eval) (captured.map a.eval)) (by simp[Instr.makeFunc]) (AR.eU ⟨_,_,rfl,by simpa using F,by simpa using I⟩)
 case makeSlice t l c=>
  obtain⟨d,N,T,e⟩:=aV E e
  split at e
  ·rename_i te p;obtain⟨de,GO,Te,e⟩:=aV E e
   split at e
   ·rename_i cl V CU Q
    split at e
    ·rename_i k n _ O hlr _;have Z:=bo B l;have e:=aR e
     split at e
     ·rename_i K H ho
      split at e
      ·rename_i H' hH;obtain⟨hK,rfl⟩:=cB hH;subst hK;obtain⟨n',hn',e⟩:=aC e;obtain⟨rfl,rfl,_⟩:=aS (bx e);have hlc:l=c:=by
        unfold zn at O
        split at O
        ·rw[af O]
        ·cases O
       subst hlc;rw[hlr]at Z;have Z:=Z.c;simp only[CR]at Z;refine(?_:aM P w0 Z0 Zp _ g w new (Instr.makeSlice t (a.eval l) (a.eval l) >>= fun x=>Pure.pure (Next.value x)) _ _);rw[Z];exact En R T Te p (hV.get Q) ho hn'
      ·exact(ac e).elim
     ·exact(ac e).elim
    ·exact(ac e).elim
   ·exact(ac e).elim
   ·split at e
    ·rename_i U;simp only[ae]at U;have Y:0<de.size:=by have:=U.2;simpa[b9]using this
     obtain⟨τ,hτ,e⟩:=ia e;have Z:=bo B l;have M:=bo B c
     split at e
     ·rename_i k n O hlr;obtain⟨n',hn',e⟩:=aC e;obtain⟨rfl,rfl,_⟩:=aS (bx e);have hlc:l=c:=by
       unfold zn at O
       split at O
       ·rw[af O]
       ·cases O
      subst hlc;rw[hlr]at Z;have Z:=Z.c;simp only[CR]at Z;refine(?_:aM P w0 Z0 Zp _ g w new (Instr.makeSlice t (a.eval l) (a.eval l) >>= fun x=>Pure.pure (Next.value x)) _ _);rw[Z];exact Fs R hn T Te p U.1 hτ Y hn'
     ·rename_i k k' n O hlr KD;obtain⟨n',hn',e⟩:=aC e;obtain⟨rfl,rfl,_⟩:=aS (bx e);rw[hlr]at Z;rw[KD]at M;have Z:=Z.c;have M:=M.c;simp only[CR]at Z M;refine(?_:aM P w0 Z0 Zp _ g w new (Instr.makeSlice t (a.eval l) (a.eval c) >>= fun x=>Pure.pure (Next.value x)) _ _);rw[Z,M];exact El R hn T Te p U.1 hτ hn'
     ·exact(ac e).elim
    ·exact(ac e).elim
  ·exact(ac e).elim
 case slice t x lo hi mx=>
  obtain⟨d,N,T,e⟩:=aV E e;obtain⟨u,g',F,I,h3,h4,h5⟩:=C9 E hV R T (bo B x) (pC B lo) (pC B hi) (pC B mx) e;exact⟨_,u,w,g',by simp[F],.inl rfl,I,h3,h5,fun o ho=> .inl (h4.al▸ho)⟩
 case fieldAddr s x j=>
  obtain⟨d,N,T,e⟩:=aV E e
  split at e
  ·rename_i f W;obtain⟨df,hdf,Tf,e⟩:=aV E e
   split at e
   ·rename_i Y;have Y:0<df.size:=by simpa[b9]using Y
    obtain⟨rfl,b,off,hv,Mk⟩:=vo (bo B x) e;unfold pX at W
    split at W
    ·rename_i fs p;obtain⟨ff,hu,M8⟩:=T.struct p;rw[←M8,List.getElem?_map]at W
     cases Ja:ff.toList[j]? with
     |none=>simp[Ja]at W
     |some q=>
      simp only[Ja,Option.map_some,Option.some.injEq]at W;subst W;have hq:ff[j]? =some q:=by simpa using Ja
      refine aM.val R (v:=.pointer (some ⟨b,off+q.offset,none⟩)) ?_ Mk;simp[Instr.fieldAt,run_underlying hu,hq,hv,Instr.sureAddr,vn Tf Y]
    ·cases W
   ·exact(ac e).elim
  ·exact(ac e).elim
 case field s x j=>
  obtain⟨d,N,T,e⟩:=aV E e
  split at e
  ·rename_i f W;obtain⟨df,hdf,Tf,e⟩:=aV E e;have J:=bo B x
   split at e
   ·rename_i cs D;rw[D]at J;obtain⟨vs,hv,hcs⟩:=J.agg;obtain⟨rfl,u,F,I⟩:=Fl (P:=P) Tf hcs e;unfold pX at W
    split at W
    ·rename_i fs p;obtain⟨ff,hu,M8⟩:=T.struct p;rw[←M8,List.getElem?_map]at W
     cases Ja:ff.toList[j]? with
     |none=>simp[Ja]at W
     |some q=>
      simp only[Ja,Option.map_some,Option.some.injEq]at W;subst W;have hq:ff[j]? =some q:=by simpa using Ja
      refine aM.val R (v:=u) ?_ I;simp[Instr.field,run_underlying hu,hq,hv,asAgg,F]
    ·cases W
   ·exact(ac e).elim
  ·exact(ac e).elim
 case indexAddr t x ix=>
  obtain⟨d,N,T,e⟩:=aV E e;obtain⟨rfl,u,F,I⟩:=xr E hV R T (bo B x) (bo B ix) e;exact aM.val R F I
 case makeMap t rs=>
  cases rs with
  |some _=>exact(ac e).elim
  |none=>
   obtain⟨d,N,T,e⟩:=aV E e
   split at e
   ·split at e
    ·split at e
     ·rename_i k V hm;exact Et R (ll (P:=P) (w:=w) E (gt hm).1).1 e
     ·exact(ac e).elim
    ·split at e
     ·rename_i hm;obtain⟨rfl,rfl,_⟩:=aS (bx e);exact BA E R hn hm
     ·exact(ac e).elim
   ·exact(ac e).elim
 case lookup t x ix ok=>
  obtain⟨d,N,T,e⟩:=aV E e
  split at e
  ·rename_i p
   split at e
   ·split at e
    ·rename_i hm;obtain⟨rfl,u,F,I⟩:=BB E R T p (gt hm).1 (hV.get (gt hm).2) (bo B x) (bo B ix) e;exact aM.val R F I
    ·exact(ac e).elim
   ·split at e
    ·rename_i hm;obtain⟨rfl,u,F,I⟩:=Dg E R T p hm (bo B x) (bo B ix) e;exact aM.val R F I
    ·exact(ac e).elim
  ·exact(ac e).elim
 case mapUpdate t m ix x=>
  obtain⟨d,N,T,e⟩:=aV E e
  split at e
  ·rename_i p
   split at e
   ·split at e
    ·rename_i hm;exact BC E R T p (gt hm).1 (bo B m) (bo B ix) (bo B x) e
    ·exact(ac e).elim
   ·split at e
    ·rename_i hm;exact Dh E R T p hm (bo B m) (bo B ix) (bo B x) e
    ·exact(ac e).elim
  ·exact(ac e).elim
 case index t x ix=>
  obtain⟨d,N,T,e⟩:=aV E e;have J:=bo B x;have hi:=bo B ix;unfold Fb at e
  split at e
  ·rename_i s k i p D M9;rw[D]at J;rw[M9]at hi;have KC:=J.c;have hiv:=hi.c;simp only[CR]at KC hiv;obtain⟨n,hn2,e⟩:=aC e;obtain⟨rfl,rfl,_⟩:=cu e;obtain⟨h0,b,hb,rfl⟩:=Er hn2;refine aM.val R (v:=.int .u8 b.toNat) ?_ (AR.eU rfl);have hlt:i.toNat<s.length:=(List.getElem?_eq_some_iff.1 hb).1;have Bk:(⟨s.toArray⟩:ByteArray)[i.toNat]? =some b:=by
    rw[getElem?_pos (⟨s.toArray⟩:ByteArray) i.toNat (by rw[mv];exact hlt)];have:=(List.getElem?_eq_some_iff.1 hb).2;rw[←this];rfl
   simp[Instr.index,KC,hiv,asIntOf,run_underlying (T.string p),h0,Bk]
  ·exact(ac e).elim
 case extract x j=>
  obtain⟨rfl,u,F,I⟩:=Bt (P:=P) (bo B x) e;exact aM.val R F I
 case call c=>
  simp only[zL]at S
  split at e
  ·rename_i M
   split at e
   ·rename_i t ts x ix hts zB;obtain⟨x0,i0,Qg,D,M9⟩:=mC zB;have has:=FB Qg;have J:=bo B x0;have hi:=bo B i0;rw[D]at J;rw[M9]at hi;obtain⟨d,N,T,e⟩:=aV E e
    split at e
    ·rename_i p
     split at e
     ·rename_i hm;obtain⟨n,v,w',g',F,I⟩:=BD (new:=new) (ty:=o.type) E R (FE hts) T p (gt hm).1 J hi e;refine⟨n,v,w',g',?_,I⟩;simp only[resolve,M,Sem.run_bind,Sem.run_pure,Result.andThen_ok,invoke,has,List.map_toArray,aQ,List.map_nil,builtin];simpa only[Sem.run_bind,Sem.run_pure]using F
     ·exact(ac e).elim
    ·exact(ac e).elim
   ·exact(ac e).elim
  ·rename_i b _ M;have:=Bv (cs:=(c.args.map fun |.const _=>true |_=>false)) E hV R hn B (ty:=o.type) e;obtain⟨n,v,w',g',F,I⟩:=this;exact⟨n,v,w',g',by simp only[resolve,M,Sem.run_bind,Sem.run_pure,Result.andThen_ok,invoke];exact F,I⟩
  ·rename_i f M;rw[M]at S;cases S
  ·exact(ac e).elim
 all_goals exact(ac e).elim
end
def iM(w:World)(Z Zp:aL)(τ:Ty)(x:τ.den)(v:Value):Prop:=
 match τ.isAgg with
 |true=>∃a:List Value,v= .agg a.toArray∧PR w Z Zp τ x a
 |false=>PR w Z Zp τ x [v]
def iN(w:World)(Z Zp:aL):(ps:List Ty)→(eo ps).den→List Value→Prop
 |[],_,b=>b=[]
 |[τ],x,b=>∃v,b=[v]∧iM w Z Zp τ x v
 |τ::σ::r,x,b=>∃v a,b=v::a∧iM w Z Zp τ x.1 v∧iN w Z Zp (σ::r) x.2 a
def mf(w:World)(Z Zp:aL)(rs:List Ty)(x:(eo rs).den)(v:Value):Prop:=
 match rs,x with
 |[τ],x=>iM w Z Zp τ x v
 |rs,x=>∃a:List Value,v= .tuple a.toArray∧iN w Z Zp rs x a
def ay:aL:=fun _ _=>False
def lm(Z:aL)(w w':World):aL:=fun b i=>Z b i∨(w.heap.size≤b∧b<w'.heap.size)
structure aw (P:Program) (f:FuncId) (E:Entry):Prop where
 fn:∃fn,P.funcs[f]? =some fn∧(fn.name== "runtime.NumGoroutine")=false∧fn.body.isNone=false
 nr:E.rs.all Ty.aX=true
 calls:∀(w:World) (Z Zp:aL) (x:(eo E.ps).den) (r:(eo E.rs).den) (args:List Value),(∀b i,Z b i→b<w.heap.size)→(∀b i,Zp b i→b<w.heap.size)→iN w Z Zp E.ps x args→E.F x=some r→
  Calls P f args.toArray w fun e w'=>∃v,e= .returned v∧w.Extends w'∧mf w' (lm Z w w') ay E.rs r v
def FG(Z:aL)(w w':World)(a:Option Nat)(lo:Nat):aL:=fun b i=>Z b i∨(w.heap.size≤b∧b<w'.heap.size∧(a=some b→i<lo))
def FH(w w':World)(size len:Nat)(d:Option Nat)(v:Value):Prop:=
 (d=none∧v= .slice none 0 0∧len=0)∨
 (∃b a c i,d=some b∧v= .slice (some ⟨b,0,none⟩) len a∧w'.heap[b]? =some (.cells c i (0,0))∧
  len≤a∧a≤maxLen∧c.size=a*size∧w.heap.size≤b)
structure gu (P:Program) (f:FuncId) (E:jc):Prop where
 fn:∃fn,P.funcs[f]? =some fn∧(fn.name== "runtime.NumGoroutine")=false∧fn.body.isNone=false
 nr:E.e.aX=true
 calls:∀(w:World) (Z Zp:aL) (x:(eo E.ps).den) (l:List E.e.den) (args:List Value),(∀b i,Z b i→b<w.heap.size)→(∀b i,Zp b i→b<w.heap.size)→iN w Z Zp E.ps x args→E.F x=some l→
  Calls P f args.toArray w fun e w'=>∃v ob,e= .returned v∧w.Extends w'∧PR w' (FG Z w w' ob (l.length*E.e.size)) ay (.sl E.e) l [v]∧FH w w' E.e.size l.length ob v
section
variable {P:Program} {w0:W0} {w w':World} {Z0 Zp:aL} {h h':aD} {g:G} {new next base:Nat} {r:A} {L L':Log} {X:Cx}
theorem iM.mono{Z d i a:aL}(j:bc w w' Z d)(l:bc w w' i a){τ:Ty}{x:τ.den}{v:Value}(b:iM w Z i τ x v):iM w' d a τ x v:=by
 unfold iM at b ⊢
 cases p:τ.isAgg<;>simp only[p]at b ⊢
 case true=>obtain⟨u,e,t⟩:=b;exact⟨u,e,PR.mono j l _ _ _ t⟩
 case false=>exact PR.mono j l _ _ _ b
theorem iM.flat{Z i j b:aL}{τ:Ty}(d:τ.flat=true){x:τ.den}{v:Value}(a:iM w Z j τ x v):iM w' i b τ x v:=by
 unfold iM at a ⊢
 cases l:τ.isAgg<;>simp only[l]at a ⊢
 case true=>obtain⟨t,e,p⟩:=a;exact⟨t,e,PR.flat _ _ _ d p⟩
 case false=>exact PR.flat _ _ _ d a
theorem iM.aX{Z i b:aL}{τ:Ty}(d:τ.aX=true){x:τ.den}{v:Value}(a:iM w Z i τ x v):iM w Z b τ x v:=by
 unfold iM at a ⊢
 cases j:τ.isAgg<;>simp only[j]at a ⊢
 case true=>obtain⟨p,e,l⟩:=a;exact⟨p,e,PR.aX _ _ _ d l⟩
 case false=>exact PR.aX _ _ _ d a
theorem iM.toVR{τ:Ty}{x:τ.den}{v:Value}(a:iM w g.Z Zp τ x v):VR w base Zp h g τ.isAgg (τ.cells x) v:=by
 unfold iM at a;unfold VR
 cases b:τ.isAgg<;>simp only[b]at a ⊢
 case true=>obtain⟨i,e,d⟩:=a;exact⟨i,e,bG.gT _ _ _ d⟩
 case false=>exact bG.gT _ _ _ a
theorem iN.map{w1 y:World}{t u j l:aL}{p:Ty→Bool}(d:∀τ (x:τ.den) v,p τ=true→iM w1 t j τ x v→iM y u l τ x v):∀(ps:List Ty) (x:(eo ps).den) (vs:List Value),ps.all p=true→iN w1 t j ps x vs→iN y u l ps x vs
 |[],_,_,_,D=>D
 |[τ],x,_,b,⟨v,e,i⟩=>⟨v,e,d τ x v (by simpa using b) i⟩
 |τ::σ::r,x,_,b,⟨v,a,e,i,hr⟩=>by
  simp only[List.all_cons,ae]at b;exact⟨v,a,e,d τ _ v b.1 i,iN.map d (σ::r) x.2 a (by simpa using b.2) hr⟩
theorem mf.map{w1 D:World}{u y l t:aL}{p:Ty→Bool}(b:∀τ (x:τ.den) v,p τ=true→iM w1 u l τ x v→iM D y t τ x v)(rs:List Ty)(x:(eo rs).den)(v:Value)(a:rs.all p=true)(d:mf w1 u l rs x v):mf D y t rs x v:=by
 match rs,x,a,d with
 |[τ],x,a,d=>exact b τ x v (by simpa using a) d
 |[],x,a,⟨j,e,i⟩=>exact⟨j,e,iN.map b _ _ _ a i⟩
 |τ::σ::r,x,a,⟨j,e,i⟩=>exact⟨j,e,iN.map b _ _ _ a i⟩
theorem zM:∀(rs:List Ty) (x:(eo rs).den) (vs:List Value),iN w g.Z Zp rs x vs→bm (fun(p:Bool×List C) c=>∃u,c=[u]∧VR w base Zp h g p.1 p.2 u) (E4 rs x) vs
 |[],_,_,d=>d
 |[τ],x,_,⟨v,e,b⟩=>⟨[v],[],by simp[e],⟨v,rfl,b.toVR⟩,rfl⟩
 |τ::σ::r,x,_,⟨v,a,e,b,i⟩=>⟨[v],a,by simp[e],⟨v,rfl,b.toVR⟩,zM (σ::r) x.2 a i⟩
theorem Ev(rs:List Ty)(x:(eo rs).den)(v:Value)(a:mf w g.Z Zp rs x v):AR w base Zp h g (E5 rs x) v:=by
 match rs,x,a with
 |[τ],x,a=>exact iM.toVR a
 |[],x,⟨c,e,b⟩=>exact⟨c,e,zM _ _ _ b⟩
 |τ::σ::r,x,⟨c,e,b⟩=>exact⟨c,e,zM _ _ _ b⟩
def uX(w:World):aL:=fun b _=>b<w.heap.size
theorem nW(R:HR w0 Z0 Zp h g w):bc w w g.Z (uX w):=fun b i a=>⟨R.nU b i a,rfl⟩
theorem gv(R:HR w0 Z0 Zp h g w):bc w w Zp (uX w):=fun b i a=>⟨aK (R.zp b i a).1 R.cT,rfl⟩
def tT(h:aD)(g:G)(w:World):aL:=fun b _=>b<w.heap.size∧∀c id,¬ GL h g c id b
theorem i7(R:HR w0 Z0 Zp h g w):bc w w Zp (tT h g w):=fun b i a=>⟨⟨aK (R.zp b i a).1 R.cT,fun c id d=>R.gh.Ie c id b i d a⟩,rfl⟩
theorem Di:bc w w (tT h g w) (uX w):=fun _ _ a=>⟨a.1,rfl⟩
theorem FI{a:aD}{g1:G}(f:Fz h g a g1):bc w w (tT h g w) (tT a g1 w):=fun _ _ b=>⟨⟨b.1,fun c id d=>b.2 c id (f.gl c id _ d)⟩,rfl⟩
theorem FJ(R:HR w0 Z0 Zp h g w):bc w w g.Z (tT h g w):=fun b i a=>⟨⟨R.nU b i a,fun c id d=>R.gh.dC c id b i d a⟩,rfl⟩
def vM(mark:Bool)(h:aD)(g:G)(w:World):aL:=if mark=true then tT h g w else uX w
theorem vN(mark:Bool):bc w w (vM mark h g w) (uX w):=by
 unfold vM;split
 ·exact Di
 ·exact bc.refl _ _
theorem DU(R:HR w0 Z0 Zp h g w)(mark:Bool):bc w w Zp (vM mark h g w):=by
 unfold vM;split
 ·exact i7 R
 ·exact gv R
theorem GZ{a:aD}{g1:G}(f:Fz h g a g1)(mark:Bool):bc w w (vM mark h g w) (vM mark a g1 w):=by
 unfold vM;split
 ·exact FI f
 ·exact bc.refl _ _
theorem ln(R:HR w0 Z0 Zp h g w):bc w w (kM h g w).Z (uX w):=fun b i a=>⟨by
 rcases a with a |⟨o,e,l,k,j,n⟩|⟨c,id,d,_⟩
 ·exact R.nU b i a
 ·exact(R.home o b (by rw[k];simp) j).2
 ·exact R.gh.lt c id b d,rfl⟩
theorem VR.list{a:Bool}{cs:List C}{v:Value}(b:VR w base Zp h g a cs v):∃vs,bG w base Zp h g cs vs∧(a=true→v= .agg vs.toArray)∧(a=false→vs=[v]):=by
 cases a with
 |true=>obtain⟨vs,e,d⟩:=b;exact⟨vs,d,fun _=>e,fun h=>by cases h⟩
 |false=>exact⟨[v],b,fun h=>(by cases h),fun _=>rfl⟩
theorem iM.list{Z d:aL}{τ:Ty}{x:τ.den}{v:Value}{vs:List Value}{a:Bool}(p:a=τ.isAgg)(j:a=true→v= .agg vs.toArray)(l:a=false→vs=[v])(b:PR w Z d τ x vs):iM w Z d τ x v:=by
 subst p;unfold iM
 cases i:τ.isAgg with
 |true=>exact⟨vs,j i,b⟩
 |false=>rw[l i]at b;exact b
theorem pH{a b:Ty}{x:a.den}{y:b.den}(c:gb a b x=some y):∃h:a=b,y=h▸x:=by
 unfold gb at c
 split at c
 ·rename_i e _;subst e
  cases c;exact⟨rfl,rfl⟩
 ·cases c
theorem FK(mark:Bool):∀(t:Ty) (a:List Nat) (d:List Value) (h:aD) (g:G) (L:Log) (k:t.den→HM) (i:A×aD×Log),HR w0 Z0 Zp h g w→
  bm (fun o es=>g.al o∧∃u,es=[u]∧ov u∧(look .dead o h≠.dead→∃b,g.hm o=some b∧u= .pointer (some ⟨b,0,none⟩))) a d→(Gw mark t a k).eval next h L=some i→
  ∃x F g1 L1,(k x).eval next F L1=some i∧HR w0 Z0 Zp F g1 w∧Le Zp h g w F g1 w∧Fz h g F g1∧PR w (if mark=true then g1.Z else uX w) (vM mark F g1 w) t x d:=by
 intro t
 induction t with
 |unit=>
  intro a d h g L k i R J e
  cases a with
  |nil=>
   simp only[bm]at J;exact⟨(),h,g,L,e,R,Le.refl _ _ _ _,Fz.refl _ _,J⟩
  |cons o a=>exact(ac e).elim
 |pair t1 t2 _ ih=>
  intro a d h g L k i R J e
  cases t1 with
  |ref σ=>
   cases a with
   |nil=>exact(ac e).elim
   |cons o a=>
    obtain⟨es,l,rfl,⟨zB,u,rfl,ON,W⟩,B⟩:=J;simp only[Gw]at e
    split at e
    ·rename_i U;have e:=aR e
     split at e
     ·rename_i cs Y;obtain⟨b,hb,rfl⟩:=W (by rw[Y];simp);have V:=R.ob o;rw[Y]at V;obtain⟨b',cur,e0,N,O,hcs⟩:=V;rw[hb]at N;cases N;have I:=bG.take σ.size _ _ hcs;have H:=(R.home o b (by rw[Y];simp) hb).2;have T:∀c id,¬ GL h g c id b:=fun c id hG=>R.gh.loc c id b o hG (by rw[Y];simp) hb;have n:∀(j:Nat) u,(cur.toList.take σ.size)[j]? =some u→w.cell? ⟨b,0+j,none⟩=some u:=fun j u S=>by
       have:=dK O 0 σ.size j u (by simpa using S);exact this
      cases mark with
      |true=>
       obtain⟨cs',F,g1,L1,e,R1,D,Q,p⟩:=cd _ _ h g _ _ _ R I e
       split at e
       ·rename_i x hx;have K:=ci U p hx;obtain⟨y,M,g2,L2,e,R2,E,q,hy⟩:=ih a l F g1 _ _ i R1 (bm.mono (fun o es ⟨ha,u,e,J,hr⟩=>⟨D.al o ha,u,e,J,fun W=>by
         obtain⟨b,F,M⟩:=hr ((D.ob o ha).alive W);exact⟨b,(D.hm o ha W).trans F,M⟩⟩) _ _ B) e
        refine⟨(x,y),M,g2,L2,e,R2,D.trans E,Q.trans q,[_],l,rfl,⟨b,0,_,rfl,PR.mono E.z (DU R1 true|>.trans (GZ q true)) _ _ _ K,fun j u S=>⟨n j u S,⟨H,fun c id hG=>T c id (Q.gl c id b (q.gl c id b hG))⟩⟩⟩,hy⟩
       ·exact(ac e).elim
      |false=>
       obtain⟨cs',L1,e,p⟩:=gj R _ _ _ _ _ I e
       split at e
       ·rename_i x hx;have K:=ci U p hx;obtain⟨y,M,g2,L2,e,R2,E,q,hy⟩:=ih a l h g _ _ i R B e;refine⟨(x,y),M,g2,L2,e,R2,E,q,[_],l,rfl,⟨b,0,_,rfl,PR.mono (ln R) (gv R) _ _ _ K,fun j u S=>⟨n j u S,H⟩⟩,hy⟩
       ·exact(ac e).elim
     ·exact(ac e).elim
    ·exact(ac e).elim
  |_=>exact(ac (by cases a<;>exact e)).elim
 |_=>intro a d h g L k i R J e;exact(ac (by cases a<;>exact e)).elim
theorem vO(mark:Bool)(R:HR w0 Z0 Zp h g w){τ:Ty}{a:A}{v:Value}(M:AR w w0.heap.size Zp h g a v){k:τ.den→HM}{Y:A×aD×Log}(e:(D7 mark τ a k).eval next h L=some Y):
  ∃x p g1 D,(k x).eval next p D=some Y∧HR w0 Z0 Zp p g1 w∧Le Zp h g w p g1 w∧Fz h g p g1∧iM w (if mark=true then g1.Z else uX w) (vM mark p g1 w) τ x v:=by
 unfold D7 at e
 split at e
 ·rename_i σ o n k
  split at e
  ·rename_i N;have e:=aR e
   split at e
   ·rename_i cs ho;obtain⟨zB,hp,hd⟩:=M.c;obtain⟨b,hb,rfl⟩:=hd (by rw[ho];simp);have Ek:=R.ob o;rw[ho]at Ek;obtain⟨b',cur,e0,hb',S,q⟩:=Ek;rw[hb]at hb';cases hb';have I:=bG.take σ.size _ _ (bG.drop n _ _ q);have Q:=(R.home o b (by rw[ho];simp) hb).2;have Na:∀c id,¬ GL h g c id b:=fun c id hG=>R.gh.loc c id b o hG (by rw[ho];simp) hb
    cases mark with
    |true=>
     obtain⟨V,p,g1,D,e,U,J,zG,z⟩:=cd _ _ h g _ _ _ R I e
     split at e
     ·rename_i x B;have d:=ci N z B;refine⟨x,p,g1,D,e,U,J,zG,b,n,_,rfl,PR.mono (bc.refl _ _) (i7 U) _ _ _ d,fun j u F=>⟨dK S n σ.size j u F,⟨Q,fun c id hG=>Na c id (zG.gl c id b hG)⟩⟩⟩
     ·exact(ac e).elim
    |false=>
     obtain⟨V,D,e,z⟩:=gj R _ _ _ _ _ I e
     split at e
     ·rename_i x B;have d:=ci N z B;refine⟨x,h,g,D,e,R,Le.refl _ _ _ _,Fz.refl _ _,b,n,_,rfl,PR.mono (ln R) (gv R) _ _ _ d,fun j u F=>⟨dK S n σ.size j u F,Q⟩⟩
     ·exact(ac e).elim
   ·exact(ac e).elim
  ·exact(ac e).elim
 ·rename_i σ a' y c k
  split at e
  ·rename_i N
   split at e
   ·rename_i x B;obtain⟨b,n,us,rfl,d,hce⟩:=M.c;have I:=bG.take σ.size _ _ (bG.drop c _ _ (bG.gT (base:=w0.heap.size) (h:=h) (g:=g) (Zp:=Zp) a' y us d));have T:=ci N I B;have i:∀j u,((us.drop c).take σ.size)[j]? =some u→w.cell? ⟨b,n+c+j,none⟩=some u∧vM mark h g w b (n+c+j):=fun j u F=>by
     have p:=hce _ _ (getElem?_sub us c σ.size j u F);rw[ce];refine⟨p.1,?_⟩;rcases p.2 with W |W
     ·unfold vM;split
      ·exact(FJ R _ _ W).1
      ·exact R.nU _ _ W
     ·exact(DU R mark _ _ W).1
    refine⟨x,h,g,L,e,R,Le.refl _ _ _ _,Fz.refl _ _,b,n+c,_,rfl,?_,i⟩
    cases mark with
    |true=>exact PR.mono (bc.refl _ _) (i7 R) _ _ _ T
    |false=>exact PR.mono (nW R) (gv R) _ _ _ T
   ·exact(ac e).elim
  ·exact(ac e).elim
 ·rename_i σ c n y k
  split at e
  ·rename_i E;rw[ae]at E;have hm:mark=false:=by simpa using E.2
   subst hm;obtain⟨b,o,cs,vs,D,rfl,q,i,e⟩:=uU R M.c e
   split at e
   ·rename_i x B;have d:=ci E.1 (bG.take σ.size _ _ q) B;refine⟨x,h,g,D,e,R,Le.refl _ _ _ _,Fz.refl _ _,b,o,_,rfl,PR.mono (nW R) (gv R) _ _ _ d,fun j u F=> ?_⟩;rw[ao]at F
    split at F
    ·have p:=i j u F;exact⟨p,World.block_lt_of_cell? w _ p⟩
    ·cases F
   ·exact(ac e).elim
  ·exact(ac e).elim
 ·rename_i σ c id ix n k
  split at e
  ·rename_i E;rw[ae]at E;have hm:mark=false:=by simpa using E.2
   subst hm;obtain⟨b,o,cs,vs,D,rfl,q,i,e⟩:=uU R M.c e
   split at e
   ·rename_i x B;have d:=ci E.1 (bG.take σ.size _ _ q) B;refine⟨x,h,g,D,e,R,Le.refl _ _ _ _,Fz.refl _ _,b,o,_,rfl,PR.mono (nW R) (gv R) _ _ _ d,fun j u F=> ?_⟩;rw[ao]at F
    split at F
    ·have p:=i j u F;exact⟨p,World.block_lt_of_cell? w _ p⟩
    ·cases F
   ·exact(ac e).elim
  ·exact(ac e).elim
 ·rename_i σ c y k
  cases mark with
  |false=>
   obtain⟨l,D,e,hp⟩:=C8 R M.c e;exact⟨l,h,g,D,e,R,Le.refl _ _ _ _,Fz.refl _ _,PR.mono (ln R) (gv R) (.sl σ) l _ hp⟩
  |true=>
   unfold DI at e;have e:=aR e
   split at e
   ·rename_i K H ho
    split at e
    ·rename_i H' hH hn;obtain⟨r,hr,e⟩:=aC e;have e:=bx e;obtain⟨g1,U,J,f1,hp⟩:=zF R M.c ho hH hn hr;exact⟨r.1,_,g1,_,e,U,J,f1,PR.mono (bc.refl _ _) (i7 U) (.sl σ) _ _ hp⟩
    ·exact(ac e).elim
   ·exact(ac e).elim
 ·rename_i f t f' ids k
  split at e
  ·rename_i hf _;subst hf;obtain⟨O,hv,hp⟩:=M.c;obtain⟨x,p,g1,D,e,U,J,f1,B⟩:=FK mark t ids O.toList h g L k Y R hp e;exact⟨x,p,g1,D,e,U,J,f1,O,by rw[hv],B⟩
  ·exact(ac e).elim
 ·rename_i f t f' t' y k
  split at e
  ·rename_i hf _;subst hf
   split at e
   ·rename_i x B;obtain⟨rfl,rfl⟩:=pH B;have E:PR w g.Z Zp (.cl f t') x [v]:=M.c;refine⟨x,h,g,L,e,R,Le.refl _ _ _ _,Fz.refl _ _,?_⟩
    cases mark with
    |true=>exact PR.mono (bc.refl _ _) (i7 R) (.cl f t') x _ E
    |false=>exact PR.mono (nW R) (gv R) (.cl f t') x _ E
   ·exact(ac e).elim
  ·exact(ac e).elim
 ·rename_i gg cs _ _ _ _ _ _ _
  split at e
  ·rename_i E;simp only[ae]at E;have Da:=toBeq E.1;obtain⟨vs,q,p,W⟩:=VR.list M
   cases mark with
   |true=>
    obtain⟨V,h3,g3,L3,e,R3,Qh,Im,Nb⟩:=cd _ _ h g _ _ _ R q e
    split at e
    ·rename_i x B;have d:=ci E.2 Nb B;exact⟨x,h3,g3,L3,e,R3,Qh,Im,iM.list Da p W (PR.mono (bc.refl _ _) (i7 R3) _ _ _ d)⟩
    ·exact(ac e).elim
   |false=>
    obtain⟨V,D,e,z⟩:=gj R _ _ _ _ _ q e
    split at e
    ·rename_i x B;have d:=ci E.2 z B;exact⟨x,h,g,D,e,R,Le.refl _ _ _ _,Fz.refl _ _,iM.list Da p W (PR.mono (ln R) (gv R) _ _ _ d)⟩
    ·exact(ac e).elim
  ·exact(ac e).elim
 ·exact(ac e).elim
theorem nX(mark:Bool):∀(ps:List Ty) (as:List A) (vs:List Value) (h:aD) (g:G) (L:Log) (k:(eo ps).den→HM) (c:A×aD×Log),HR w0 Z0 Zp h g w→
  bm (fun b B=>∃u,B=[u]∧AR w w0.heap.size Zp h g b u) as vs→(A8 mark ps as k).eval next h L=some c→
  ∃x j g1 n,(k x).eval next j n=some c∧HR w0 Z0 Zp j g1 w∧Le Zp h g w j g1 w∧Fz h g j g1∧iN w (if mark=true then g1.Z else uX w) (uX w) ps x vs
 |[],as,vs,h,g,L,k,c,R,q,e=>by
  cases as with
  |nil=>exact⟨(),h,g,L,e,R,Le.refl _ _ _ _,Fz.refl _ _,q⟩
  |cons _ _=>exact(ac e).elim
 |[τ],as,vs,h,g,L,k,c,R,q,e=>by
  cases as with
  |nil=>exact(ac e).elim
  |cons a as=>
   cases as with
   |cons _ _=>exact(ac e).elim
   |nil=>
    obtain⟨B,d,F,⟨u,H,p⟩,t⟩:=q;simp only[bm]at t;subst t;subst H;obtain⟨x,j,g1,n,I,E,i,l,D⟩:=vO mark R p e;exact⟨x,j,g1,n,I,E,i,l,u,by simpa using F,iM.mono (bc.refl _ _) (vN mark) D⟩
 |τ::σ::ps,as,vs,h,g,L,k,c,R,q,e=>by
  cases as with
  |nil=>exact(ac e).elim
  |cons a as=>
   obtain⟨B,d,F,⟨u,H,p⟩,t⟩:=q;subst H;obtain⟨x,j,g1,n,I,E,i,l,D⟩:=vO mark R p e;obtain⟨y,Q,O,K,N,M,o,J,S⟩:=nX mark (σ::ps) as d j g1 n _ c E (bm.mono (fun b B ⟨u,e,p⟩=>⟨u,e,AR.mono i _ _ p⟩) _ _ t) I;refine⟨(x,y),Q,O,K,N,M,i.trans o,l.trans J,u,d,by simpa using F,?_,S⟩
   cases mark with
   |true=>exact iM.mono o.z (vN true) D
   |false=>exact iM.mono (bc.refl _ _) (vN false) D
theorem FL{a:List Nat}{d:Array Value}(x:bm (fun o c=>g.al o∧∃u,c=[u]∧ov u∧(look .dead o h≠.dead→∃b,g.hm o=some b∧u= .pointer (some ⟨b,0,none⟩))) a d.toList):
  bm (fun b c=>∃u,c=[u]∧AR w base Zp h g b u) (Ib a) d.toList:=by
 have:∀(a:List Nat) (j:List Value),bm (fun o c=>g.al o∧∃u,c=[u]∧ov u∧(look .dead o h≠.dead→∃b,g.hm o=some b∧u= .pointer (some ⟨b,0,none⟩))) a j→
   bm (fun b c=>∃u,c=[u]∧AR w base Zp h g b u) (a.map fun o=>A.v false [.ptr o 0]) j:=by
  intro a
  induction a with
  |nil=>intro j h;exact h
  |cons o a z=>
   intro j y;obtain⟨c,i,n,⟨k,u,p,l,t⟩,q⟩:=y;exact⟨c,i,n,⟨u,p,AR.eU ⟨k,l,t⟩⟩,z i q⟩
 exact this a _ x
theorem zN{f:FuncId}{fn:Func}(d:P.funcs[f]? =some fn)(c:(fn.name== "runtime.NumGoroutine")=false)(a:fn.body.isNone=false)(b:Array Value):(callFunc f b).run P w= .ok (.enter f b) w:=by
 have j:¬ fn.name= "runtime.NumGoroutine":=by simpa using c
 have i:¬ fn.body=none:=by intro h;rw[h]at a;cases a
 simp[callFunc,program,Sem.run,d,j,i]
theorem HR.Ha(R:HR w0 Z0 Zp h g w)(Q:w.Extends w'){new:Nat}(Y:¬ g.al new){size len:Nat}{ob:Option Nat}{v:Value}(ho:FH w w' size len ob v):
  let g':G:={ al:=fun o=>g.al o∨o=new,Z:=FG g.Z w w' ob (len*size),hm:=C5 g.hm new ob,lo:=C5 g.lo new (len*size),pm:=g.pm }
  HR w0 Z0 Zp ((new,.tok)::h) g' w'∧Le Zp h g w ((new,.tok)::h) g' w'∧Kh w' w0.heap.size g' new size len v:=by
 intro g';have hsz:=Q.size;have I:∀o,o≠new→look .dead o ((new,Ob.tok)::h)=look .dead o h:=fun o a=>by rw[ax,if_neg (Ne.symm a)]
 have S:look .dead new ((new,Ob.tok)::h)= .tok:=by rw[ax,if_pos rfl]
 have t:∀o,o≠new→g'.hm o=g.hm o:=fun o a=>dw _ _ a;have u:g'.hm new=ob:=fA _ _ _;have M:∀b,ob=some b→w.heap.size≤b∧b<w'.heap.size:=by
  intro b hb;rcases ho with⟨l,_⟩|⟨b',U,V,e0,l,_,W,_,_,_,h7⟩
  ·rw[l]at hb;cases hb
  ·rw[l]at hb;cases hb;exact⟨h7,(Array.getElem?_eq_some_iff.1 W).1⟩
 have L:Le Zp h g w ((new,.tok)::h) g' w':=by
  refine⟨fun o J=> .inl J,fun c i j=>⟨.inl j,Q.cell _ (R.nU c i j)⟩,R.IM (fun c d _=>Q.block c (aK d R.cT)) R.zp,fun o J=> ?_,fun o J _=> ?_,fun o J T=> ?_,fun _ _ _ h=>h⟩
  ·rw[I o (fun e=>Y (e▸J))];exact Ob.to.refl _
  ·exact t o (fun e=>Y (e▸J))
  ·rw[I o (fun e=>Y (e▸J))]at T;exact⟨dw _ _ (fun e=>Y (e▸J)),fun c d=>Q.block c (R.home o c (by rw[T];simp) d).2⟩
 refine⟨⟨R.ext.trans Q,fun o=> ?_,fun o J=> ?_,fun o c x d=> ?_,fun o p c x N d D=> ?_,fun o c i E d j=> ?_,fun o c i T d j=> ?_,fun c i j=> ?_,fun c i d j=> ?_,fun c i j=> .inl (R.z0 c i j),R.zp,R.gh.keep L (fun c wr K H d=> ?_) rfl (fun c id b O=>Q.block b (R.gh.lt c id b O)) hsz (fun c id b i O j=> ?_) (fun c id b o O x d=> ?_)⟩,L,?_⟩
 ·by_cases a:o=new
  ·subst a;rw[S];trivial
  ·rw[I o a];exact p2.mono L (.inr (t o a)) (fun x c d=>Q.block c (R.home o c x d).2) (R.ob o)
 ·have a:o≠new:=fun e=>J (.inr e);rw[I o a];exact R.dead o fun h=>J (.inl h)
 ·by_cases a:o=new
  ·subst a;rw[u]at d;have:=M c d;have:=R.cT;omega
  ·rw[I o a]at x;rw[t o a]at d;have:=R.home o c x d;exact⟨this.1,by omega⟩
 ·by_cases l:o=new
  ·by_cases y:p=new
   ·rw[l,y]
   ·subst l;rw[u]at d;rw[I p y]at N;rw[t p y]at D;have:=M c d;have:=R.home p c N D;omega
  ·by_cases y:p=new
   ·subst y;rw[u]at D;rw[I o l]at x;rw[t o l]at d;have:=M c D;have:=R.home o c x d;omega
   ·rw[I o l]at x;rw[t o l]at d;rw[I p y]at N;rw[t p y]at D;exact R.ei o p c x N d D
 ·by_cases l:o=new
  ·subst l;rw[S]at E;simp[Ob.open?]at E
  ·rw[I o l]at E;rw[t o l]at d;have zB:look .dead o h≠.dead:=by intro x;rw[x]at E;simp[Ob.open?]at E
   rcases j with j |⟨e,_⟩
   ·exact R.dC o c i E d j
   ·have:=R.home o c zB d;omega
 ·by_cases l:o=new
  ·subst l;rw[u]at d;show i<C5 g.lo o (len*size) o;rw[fA];rcases j with j |⟨_,_,j⟩
   ·have:=M c d;have:=R.nU c i j;omega
   ·exact j d
  ·rw[I o l]at T;rw[t o l]at d;show i<C5 g.lo new (len*size) o;rw[dw _ _ l];rcases j with j |⟨e,_⟩
   ·exact R.oa o c i T d j
   ·have:=R.home o c (by rw[T];simp) d;omega
 ·rcases j with j |⟨_,y,_⟩
  ·have:=R.nU c i j;omega
  ·exact y
 ·rcases j with j |⟨l,_⟩
  ·exact R.me c i d j
  ·have:=R.cT;omega
 ·by_cases a:c=new
  ·subst a;rw[S]at d;cases d
  ·rw[I c a]at d;exact d
 ·rcases j with j |⟨l,_⟩
  ·exact R.gh.dC c id b i O j
  ·have:=R.gh.lt c id b O;omega
 ·by_cases a:o=new
  ·subst a;rw[u]at d;have:=M b d;have:=R.gh.lt c id b O;omega
  ·rw[I o a]at x;rw[t o a]at d;exact R.gh.loc c id b o O x d
 ·have hlo:g'.lo new=len*size:=fA _ _ _;rcases ho with⟨l,y,W⟩|⟨b,U,V,e0,l,y,W,h4,h5,h6,h7⟩
  ·exact .inl ⟨u.trans l,y,W⟩
  ·have:=R.cT;exact .inr ⟨b,U,V,e0,u.trans l,y,W,h4,h5,h6,by omega,hlo⟩
theorem FM{Z o:aL}{e:Ty}(J:e.flat=true){l:List e.den}{v:Value}{R:Option Nat}(M:PR w' Z ay (.sl e) l [v])(K:FH w w' e.size (aa l) R v)(Q:∀b i,w.heap.size≤b→b<w'.heap.size→i<aa l*e.size→o b i):PR w' o ay (.sl e) l [v]:=by
 obtain⟨base,c,y,a,B,q,D⟩:=M;refine⟨base,c,y,a,B,bm.mono (fun x E O=>PR.flat e x E J O) _ _ q,fun n=> ?_⟩;obtain⟨b,S,rfl,I⟩:=D n;have N:=bm.length (PR.k e) l y q;rcases K with⟨_,d,_⟩|⟨T,p,z,U,_,d,F,_,_,_,H⟩
 ·rw[d]at a;simp at a
 ·rw[d]at a;simp only[List.cons.injEq,Value.slice.injEq,Option.some.injEq,Addr.mk.injEq,and_true]at a;obtain⟨⟨rfl,rfl⟩,_⟩:=a;refine⟨_,_,rfl,fun j u t=>⟨(I j u t).1,Q _ _ H (Array.getElem?_eq_some_iff.1 F).1 ?_⟩⟩;have:=(List.getElem?_eq_some_iff.1 t).1;omega
def kr(w:World)(base:Nat)(Zp:aL)(h:aD)(g:G):(ps:List VT)→(iz ps).den→List Value→Prop
 |[],_,b=>b=[]
 |[V],x,b=>∃v,b=[v]∧AR w base Zp h g (kJ V x) v
 |V::U::r,x,b=>∃v a,b=v::a∧AR w base Zp h g (kJ V x.1) v∧kr w base Zp h g (U::r) x.2 a
structure be (P:Program) (f:FuncId) (E:bl):Prop where
 fn:∃fn,P.funcs[f]? =some fn∧(fn.name== "runtime.NumGoroutine")=false∧fn.body.isNone=false
 ok:E.rs.all VT.ok=true
 calls:∀(w0:W0) (Z0 Zp:aL) (g:G) (x:(iz E.ps).den) (hs:cJ E.ws) (ho:cJ E.os) (r:(iz E.rs).den) (hs':cJ E.ws) (args:List Value),
  HR w0 Z0 Zp (bq true E.ws hs++bq false E.os ho) g w0.toWorld→(∀p,g.al p→p∈(E.ws++E.os).map (·.1))→kr w0.toWorld w0.heap.size Zp (bq true E.ws hs++bq false E.os ho) g E.ps x args→E.F x hs ho=some (r,hs')→
  Calls P f args.toArray w0.toWorld fun e w'=>∃v g',e= .returned v∧HR w0 Z0 Zp (bq true E.ws hs') g' w'∧AR w' w0.heap.size Zp (bq true E.ws hs') g' (jZ E.rs r) v
end
section
variable {P:Program} {w0:W0} {w w':World} {Z0 Zp rT:aL} {h h':aD} {g g':G} {new next base base':Nat} {r:A} {L L':Log} {X:Cx}
theorem VT.ic(E:bc w w' g.Z g'.Z)(u:∀c id e,g.pm c id=some e→g'.pm c id=some e):∀(V:VT) (x:V.den) (vs:List Value),V.ok=true→bG w base Zp h g (V.cells x) vs→bG w' base' rT h' g' (V.cells x) vs
 |.data τ,x,vs,p,i=>bG.gT τ x vs (PR.aX τ x vs p (PR.mono (Zp:=ay) (rT:=ay) E (fun _ _ h=>h.elim) τ x vs (PR.aX τ x vs p (Ty.j0 p i))))
 |.gp c H,none,vs,_,i=>i
 |.gp c H,some id,vs,_,⟨v,d,e,⟨q,j,l⟩,t⟩=>⟨v,d,e,⟨q,u _ _ _ j,l⟩,t⟩
 |.gs c,none,vs,_,i=>i
 |.gs c,some (id,a,n),vs,_,⟨v,d,e,⟨b,k,D,J,o,j,l⟩,t⟩=>⟨v,d,e,⟨b,k,D,J,o,u _ _ _ j,l⟩,t⟩
 |.gm c,none,vs,_,i=>i
 |.gm c,some id,vs,_,⟨v,d,e,⟨q,j,l⟩,t⟩=>⟨v,d,e,⟨q,u _ _ _ j,l⟩,t⟩
 |.cl _ _ _,none,vs,_,i=>i
 |.cl _ _ _,some q,vs,_,⟨v,d,e,⟨a,b,j,l,t⟩,I⟩=>⟨v,d,e,⟨a,b,j,iL.mono u _ _ _ l,iL.mono u _ _ _ t⟩,I⟩
 |.pair a b,x,vs,p,i=>by
  have p:(a.ok&&b.ok)=true:=p;rw[ae]at p;obtain⟨K,rs,e,j,l⟩:=bG.split (a.cells x.1) (b.cells x.2) vs i;rw[e];exact bG.append _ _ _ _ (VT.ic E u a _ _ p.1 j) (VT.ic E u b _ _ p.2 l)
 |.unit,_,_,_,i=>i
theorem VT.uY(d:bc w w' g.Z g'.Z)(j:∀c id e,g.pm c id=some e→g'.pm c id=some e){V:VT}{x:V.den}{a:Bool}{v:Value}(i:V.ok=true)(b:VR w base Zp h g a (V.cells x) v):VR w' base' rT h' g' a (V.cells x) v:=by
 cases a with
 |true=>obtain⟨p,e,l⟩:=b;exact⟨p,e,VT.ic d j _ _ _ i l⟩
 |false=>exact VT.ic d j _ _ _ i b
theorem gi.move(O:bc w w' g.Z g'.Z)(t:∀c id e,g.pm c id=some e→g'.pm c id=some e){c id:Nat}(hb:∀e,g.pm c id=some e→w'.heap[e.1]? =w.heap[e.1]?):∀(K:GK) (x:K.ga),K.ok=true→gi w base Zp h g c id K x→gi w' base' rT h' g' c id K x
 |.st V,_,H,⟨u,b,d,l,J,a,D,E⟩=>⟨u,b,d,l,J,t _ _ _ a,(hb _ a).trans D,VT.ic O t V _ _ H E⟩
 |.bf V,_,H,⟨u,b,k,d,l,J,a,D,E,I,S,T⟩=>⟨u,b,k,d,l,J,t _ _ _ a,(hb _ a).trans D,E,I,S,bm.mono (fun x M U=>VT.ic O t V x M H U) _ _ T⟩
 |.mp k V,_,H,⟨u,N,b,M,i,a,D,E,I⟩=>⟨u,N,b,M,i,t _ _ _ a,(hb _ a).trans D,E,fun j p e R Q=>⟨(I j p e R Q).1,VT.uY O t H (I j p e R Q).2⟩⟩
def cA(wr:Bool):(l:List (Nat×GK))→cJ l→Nat→Option Ob
 |[],_,_=>none
 |(c,K)::r,x,p=>if c=p then some (.gh wr K x.1)else cA wr r x.2 p
theorem fC(wr:Bool)(p:Nat)(T:aD):∀(l:List (Nat×GK)) (x:cJ l),look .dead p (bq wr l x++T)=(cA wr l x p).getD (look .dead p T)
 |[],_=>rfl
 |(c,K)::r,x=>by
  show look .dead p ((c,.gh wr K x.1)::(bq wr r x.2++T))=_;rw[ax];unfold cA
  split
  ·rfl
  ·exact fC wr p T r x.2
theorem fQ{wr:Bool}{p:Nat}{b:Ob}:∀(l:List (Nat×GK)) (x:cJ l),cA wr l x p=some b→p∈l.map (·.1)∧∃K H,b= .gh wr K H
 |[],_,h=>by cases h
 |(c,K)::r,x,h=>by
  unfold cA at h
  split at h
  ·rename_i i;cases h;exact⟨by simp[i],K,x.1,rfl⟩
  ·obtain⟨a,d⟩:=fQ r x.2 h;exact⟨by simp at a ⊢;exact .inr a,d⟩
theorem r8{wr:Bool}{p:Nat}:∀(l:List (Nat×GK)) (x:cJ l),p∈l.map (·.1)→∃K H,cA wr l x p=some (.gh wr K H)
 |[],_,h=>by simp at h
 |(c,K)::r,x,h=>by
  unfold cA
  split
  ·exact⟨K,x.1,rfl⟩
  ·rename_i a;refine r8 r x.2 ?_;simp only[aQ,List.mem_cons]at h;rcases h with h |h
   ·exact absurd h.symm a
   ·exact h
theorem vP{wr:Bool}{p:Nat}{l:List (Nat×GK)}{x:cJ l}(h:p∉l.map (·.1)):cA wr l x p=none:=by
 cases a:cA wr l x p with
 |none=>rfl
 |some b=>exact absurd (fQ l x a).1 h
theorem r9{wr:Bool}{d:A×aD×Log}:∀(l:List (Nat×GK)) (k:cJ l→HM) (L:Log),(Gx wr l k).eval next h L=some d→
  ∃y j,(k y).eval next h j=some d∧∀p K H,cA wr l y p=some (.gh wr K H)→∃a,look .dead p h= .gh a K H∧(wr=true→a=true)
 |[],k,L,e=>⟨(),L,e,fun p K H h=>by cases h⟩
 |(c,K)::r,k,L,e=>by
  have e:=aR e
  split at e
  ·rename_i a t H z
   split at e
   ·rename_i D u b;obtain⟨x,rfl⟩:=cB u;subst x;obtain⟨y,j,e,B⟩:=r9 r _ _ e;refine⟨(H,y),j,e,fun p o H1 q=> ?_⟩;have i:(if c=p then some (Ob.gh wr t H)else cA wr r y p)=some (.gh wr o H1):=q;clear q
    by_cases n:c=p
    ·rw[if_pos n]at i;subst n
     cases i;exact⟨a,z,fun h=>by rw[h]at b;simpa using b⟩
    ·rw[if_neg n]at i;exact B p o H1 i
   ·exact(ac e).elim
  ·exact(ac e).elim
def iB:(l:List (Nat×GK))→cJ l→aD→aD
 |[],_,h=>h
 |(c,K)::r,x,h=>iB r x.2 ((c,.gh true K x.1)::h)
theorem sU{a:A×aD×Log}{k:HM}:∀(l:List (Nat×GK)) (x:cJ l) (h:aD) (L:Log),(CZ l x k).eval next h L=some a→∃b,k.eval next (iB l x h) b=some a
 |[],_,h,L,e=>⟨L,e⟩
 |(c,K)::r,x,h,L,e=>sU r x.2 _ _ (bx e)
theorem sV{p:Nat}:∀(l:List (Nat×GK)) (x:cJ l) (h:aD),pU (l.map (·.1))=true→look .dead p (iB l x h)=(cA true l x p).getD (look .dead p h)
 |[],_,h,_=>rfl
 |(c,K)::r,x,h,a=>by
  simp only[aQ,pU,ae,Bool.not_eq_true']at a;unfold iB cA;rw[sV r x.2 _ a.2,ax]
  split
  ·rename_i b;subst b;rw[vP (by simpa using a.1)];rfl
  ·rfl
theorem vQ:∀(a b:List Nat),pU (a++b)=true→pU a=true
 |[],_,_=>rfl
 |c::a,b,h=>by
  simp only[bU,pU,ae,Bool.not_eq_true']at h ⊢;refine⟨?_,vQ a b h.2⟩;have:=h.1;simp at this ⊢;exact this.1
def FN(w:World)(h:aD)(g:G)(ws os:List (Nat×GK))(yo:cJ os):W0:=
 { toWorld:=w,B:=fun b=>∃c id,c∈ws.map (·.1)∧GL h g c id b,pm:=g.pm,ro:=fun c=>match cA false os yo c with |some (.gh _ K H)=>some ⟨K,H⟩|_=>none,ws:=fun c=>c∈ws.map (·.1) }
def BE(g:G)(ws os:List (Nat×GK)):G:=⟨fun o=>o∈(ws++os).map (·.1),g.Z,fun _=>none,fun _=>0,g.pm⟩
section
variable {ws os:List (Nat×GK)} {y:cJ ws} {yo:cJ os}
theorem yK(p:Nat):look .dead p (bq true ws y++bq false os yo)=(cA true ws y p).getD ((cA false os yo p).getD .dead):=by
 have:=fC false p [] os yo;rw[List.append_nil]at this;rw[fC,this];rfl
theorem HR.Jb(R:HR w0 Z0 Zp h g w)(U:∀p K H,cA true ws y p=some (.gh true K H)→look .dead p h= .gh true K H)(N:∀p K H,cA false os yo p=some (.gh false K H)→∃wr,look .dead p h= .gh wr K H):
  HR (FN w h g ws os yo) g.Z (tT h g w) (bq true ws y++bq false os yo) (BE g ws os) w:=by
 have d:∀c wr K H,look .dead c (bq true ws y++bq false os yo)= .gh wr K H→(∃j,look .dead c h= .gh j K H)∧(wr=true→c∈ws.map (·.1)∧look .dead c h= .gh true K H)∧(wr=false→cA false os yo c=some (.gh false K H)):=by
  intro c wr K H u;rw[yK]at u
  cases a:cA true ws y c with
  |some ob=>
   rw[a]at u;obtain⟨hm,J,H1,rfl⟩:=fQ ws y a
   cases u;have:=U c K H a;exact⟨⟨_,this⟩,fun _=>⟨hm,this⟩,fun h=>Bool.noConfusion h⟩
  |none=>
   rw[a]at u
   cases l:cA false os yo c with
   |some ob=>
    rw[l]at u;obtain⟨hm,J,H1,rfl⟩:=fQ os yo l
    cases u;exact⟨N c K H l,fun h=>Bool.noConfusion h,fun _=>rfl⟩
   |none=>rw[l]at u;cases u
 have I:∀o,(∃wr K H,look .dead o (bq true ws y++bq false os yo)= .gh wr K H)∨look .dead o (bq true ws y++bq false os yo)= .dead:=by
  intro o;rw[yK]
  cases a:cA true ws y o with
  |some ob=>obtain⟨hm,J,H1,rfl⟩:=fQ ws y a;exact .inl ⟨_,_,_,rfl⟩
  |none=>
   cases l:cA false os yo o with
   |some ob=>obtain⟨hm,J,H1,rfl⟩:=fQ os yo l;exact .inl ⟨_,_,_,rfl⟩
   |none=>exact .inr rfl
 have E:∀c id b,GL (bq true ws y++bq false os yo) (BE g ws os) c id b→GL h g c id b:=by
  rintro c id b ⟨wr,K,H,x,e,a,l,M,S⟩;obtain⟨⟨j,t⟩,_⟩:=d c wr K H a;exact⟨j,K,H,x,e,t,l,M,S⟩
 refine⟨⟨rfl,rfl,rfl,aq _,fun _ _ _=>rfl⟩,fun o=> ?_,fun o T=> ?_,fun o b _ hb=>(by cases hb),fun o p b _ _ hb _=>(by cases hb),fun o b i _ hb=>(by cases hb),fun o b i _ hb=>(by cases hb),R.nU,fun b i _ D=> .inl D,fun b i D=>D,fun b i D=>⟨D.1,fun⟨c,id,_,hB⟩=>D.2 c id hB⟩,
  ⟨fun c wr K H id x a l=> ?_,fun c wr K H id a l=> ?_,fun c id b a=>R.gh.lt c id b (E c id b a),fun c K H id x e a l M=> ?_,fun c id Q O b a l=>R.gh.ei c id Q O b (E _ _ _ a) (E _ _ _ l),fun c id b i a=>R.gh.dC c id b i (E _ _ _ a),fun c id b o _ _ hb=>(by cases hb),fun c wr V H id e a l=> ?_,fun c id e a=>a,fun c K H a=> ?_,fun c id b i a D=>D.2 c id (E _ _ _ a),fun c wr K H a=> ?_,fun c K H a=>((d c true K H a).2.1 rfl).1,fun c id e a=> .inl a⟩⟩
 ·rcases I o with⟨wr,K,H,a⟩|a
  ·rw[a];rfl
  ·rw[a];trivial
 ·rcases I o with⟨wr,K,H,a⟩|a
  ·exfalso;apply T;show o∈(ws++os).map (·.1);rw[List.map_append,List.mem_append]
   cases wr with
   |true=>exact .inl ((d o true K H a).2.1 rfl).1
   |false=>exact .inr (fQ os yo ((d o false K H a).2.2 rfl)).1
  ·exact a
 ·obtain⟨⟨j,t⟩,_⟩:=d c wr K H a;exact gi.move (w':=w) (g:=g) (g':=BE g ws os) (fun _ _ h=>⟨h,rfl⟩) (fun _ _ _ h=>h) (fun _ _=>rfl) K x (R.gh.Ff c j K H t) (R.gh.ga c j K H id x t l)
 ·obtain⟨⟨j,t⟩,_⟩:=d c wr K H a;exact R.gh.fresh c j K H id t l
 ·obtain⟨_,t,_⟩:=d c true K H a;exact .inr ⟨c,id,(t rfl).1,true,K,H,x,e,(t rfl).2,l,M,rfl⟩
 ·obtain⟨⟨j,t⟩,_⟩:=d c wr _ H a;exact R.gh.Gp c j V H id e t l
 ·have t:=(d c false K H a).2.2 rfl;show(match cA false os yo c with |some (.gh _ K H)=>some (⟨K,H⟩:Σ K:GK,List (Option K.ga))|_=>none)=_;rw[t]
 ·obtain⟨⟨j,t⟩,_⟩:=d c wr K H a;exact R.gh.Ff c j K H t
theorem HR.Hb(R:HR w0 Z0 Zp h g w)(S:pU (ws.map (·.1))=true)(hy:∀p K H,cA true ws y p=some (.gh true K H)→look .dead p h= .gh true K H){T:cJ ws}{g2:G}(O:HR (FN w h g ws os yo) g.Z (tT h g w) (bq true ws T) g2 w')
  (hk:∀p K H K' E,cA true ws y p=some (.gh true K H)→cA true ws T p=some (.gh true K' E)→K=K') {g':G} (hg:g'={ g with Z:=g2.Z,pm:=g2.pm }):
  HR w0 Z0 Zp (iB ws T h) g' w'∧Le Zp h g w (iB ws T h) g' w':=by
 subst hg;have lk:∀p,look .dead p (iB ws T h)=(cA true ws T p).getD (look .dead p h):=fun p=>sV ws T h S;have Qi:∀p,look .dead p (bq true ws T)=(cA true ws T p).getD .dead:=fun p=>by
  have:=fC true p [] ws T;rwa[List.append_nil]at this
 have d:∀p,p∈ws.map (·.1)→∃K H E,look .dead p (iB ws T h)= .gh true K E∧look .dead p (bq true ws T)= .gh true K E∧look .dead p h= .gh true K H:=fun p hp=>by
  obtain⟨K',E,a⟩:=r8 (wr:=true) ws T hp;obtain⟨K,H,D⟩:=r8 (wr:=true) ws y hp;have:=hk p K H K' E D a;subst this;exact⟨K,H,E,by rw[lk,a];rfl,by rw[Qi,a];rfl,hy p K H D⟩
 have t:∀p,p∉ws.map (·.1)→look .dead p (iB ws T h)=look .dead p h:=fun p hp=>by rw[lk,vP hp];rfl
 have Jc:∀p,p∈ws.map (·.1)→g.hm p=none:=fun p hp=>by
  obtain⟨K,H,E,_,_,u⟩:=d p hp;have:=R.ob p;rw[u]at this;exact this
 have I:∀p,look .dead p (iB ws T h)≠.dead→look .dead p h≠.dead:=fun p hp=>by
  by_cases hm:p∈ws.map (·.1)
  ·obtain⟨K,H,E,_,_,u⟩:=d p hm;rw[u];simp
  ·rw[←t p hm];exact hp
 have hs:w.heap.size≤w'.heap.size:=O.ext.size;have W:∀b,b<w.heap.size→(∀c id,c∈ws.map (·.1)→¬ GL h g c id b)→w'.heap[b]? =w.heap[b]? :=fun b hb hn=>O.ext.block b hb fun⟨c,id,hc,N⟩=>hn c id hc N
 have In:∀o b,look .dead o h≠.dead→g.hm o=some b→w'.heap[b]? =w.heap[b]? :=fun o b S hb=>W b (R.home o b S hb).2 fun c id _ N=>R.gh.loc c id b o N S hb
 have Nc:∀c id b,c∉ws.map (·.1)→GL h g c id b→w'.heap[b]? =w.heap[b]? :=fun c id b hc N=>W b (R.gh.lt c id b N) fun c2 Jd Ml MD=>hc ((R.gh.ei _ _ _ _ _ N MD).1▸Ml)
 have Qj:bc w w' g.Z g2.Z:=fun b i J=>⟨O.z0 b i J,az (W b (R.nU b i J) fun c id _ N=>R.gh.dC c id b i N J)⟩;have Mm:∀b i,g2.Z b i→b<w.heap.size→g.Z b i∨∃c id,c∈ws.map (·.1)∧GL h g c id b:=fun b i J hb=>O.me b i hb J;have Ki:∀c id e,g.pm c id=some e→g2.pm c id=some e:=O.gh.old;have DT:∀c id e,g2.pm c id=some e→g.pm c id=some e∨c∈ws.map (·.1):=O.gh.new;have L:Le Zp h g w (iB ws T h) { g with Z:=g2.Z,pm:=g2.pm } w':=by
  refine⟨fun o ha=>ha,Qj,R.IM (fun b hb hB=>W b (aK hb R.cT) fun c id hc N=> ?_) R.zp,fun p _=> ?_,fun _ _ _=>rfl,fun p _ ht=>⟨rfl,fun b hb=> ?_⟩,Ki⟩
  ·obtain⟨K,H,E,_,_,u⟩:=d c hc;obtain⟨wr,U,H1,x,e,Y,j,h6,h7⟩:=N;rw[u]at Y;cases Y;rcases R.gh.own c _ _ id x e u j h6 with h8 |h8
   ·omega
   ·exact hB (h7▸h8)
  ·by_cases hm:p∈ws.map (·.1)
   ·obtain⟨K,H,E,a,_,u⟩:=d p hm;rw[a,u];exact .inr (.inr (.inr (.inr (.inr (.inl ⟨_,_,_,rfl,rfl⟩)))))
   ·rw[t p hm];exact Ob.to.refl _
  ·have hm:p∉ws.map (·.1):=fun hm=>by
    obtain⟨K,H,E,a,_,u⟩:=d p hm;rw[a]at ht;cases ht
   rw[t p hm]at ht;exact In p b (by rw[ht];simp) hb
 have Je:∀c id b,GL (iB ws T h) { g with Z:=g2.Z,pm:=g2.pm } c id b→(c∉ws.map (·.1)∧GL h g c id b)∨(c∈ws.map (·.1)∧GL (bq true ws T) g2 c id b∧(w.heap.size≤b∨∃c2 Jd,c2∈ws.map (·.1)∧GL h g c2 Jd b)):=by
  rintro c id b ⟨wr,U,H1,x,e,a,D,u,Y⟩
  by_cases hm:c∈ws.map (·.1)
  ·obtain⟨K,H,E,l,M,k3⟩:=d c hm;rw[l]at a;cases a;refine .inr ⟨hm,⟨true,_,_,x,e,M,D,u,Y⟩,?_⟩;rcases O.gh.own c _ _ id x e M D u with j |j
   ·exact .inl (Y▸j)
   ·exact .inr (Y▸j)
  ·rw[t c hm]at a;rcases DT c id e u with j |j
   ·exact .inl ⟨hm,wr,U,H1,x,e,a,D,j,Y⟩
   ·exact absurd j hm
 refine⟨⟨⟨O.ext.os.trans R.ext.os,O.ext.tape.trans R.ext.tape,O.ext.output.trans R.ext.output,Nat.le_trans R.ext.size hs,fun i hi hB=> ?_⟩,fun p=> ?_,fun p ha=> ?_,fun p b S hb=> ?_,fun p q b S hd' hb hb'=>R.ei p q b (I p S) (I q hd') hb hb',fun p b i hp hb J=> ?_,fun p b i ht hb J=> ?_,fun b i J=>O.nU b i J,fun b i hb J=> ?_,fun b i J=>O.z0 b i (R.z0 b i J),R.zp,?_⟩,L⟩
 ·refine(W i (aK hi R.cT) fun c id hc N=> ?_).trans (R.ext.block i hi hB);obtain⟨K,H,E,_,_,u⟩:=d c hc;obtain⟨wr,U,H1,x,e,Y,j,h6,h7⟩:=N;rw[u]at Y;cases Y;rcases R.gh.own c _ _ id x e u j h6 with h8 |h8
  ·omega
  ·exact hB (h7▸h8)
 ·by_cases hm:p∈ws.map (·.1)
  ·obtain⟨K,H,E,a,_,u⟩:=d p hm;rw[a];exact Jc p hm
  ·rw[t p hm];exact p2.mono L (.inr rfl) (fun S b hb=>In p b S hb) (R.ob p)
 ·have hm:p∉ws.map (·.1):=fun hm=>by
   obtain⟨K,H,E,_,_,u⟩:=d p hm;exact ha (R.alive (by rw[u];simp))
  rw[t p hm];exact R.dead p ha
 ·have:=R.home p b (I p S) hb;exact⟨this.1,by omega⟩
 ·have hm:p∉ws.map (·.1):=fun hm=>by have:=Jc p hm;rw[this]at hb;cases hb
  rw[t p hm]at hp;have KE:look .dead p h≠.dead:=by intro S;rw[S]at hp;cases hp
  rcases Mm b i J (R.home p b KE hb).2 with a |⟨c,id,_,N⟩
  ·exact R.dC p b i hp hb a
  ·exact R.gh.loc c id b p N KE hb
 ·have hm:p∉ws.map (·.1):=fun hm=>by have:=Jc p hm;rw[this]at hb;cases hb
  rw[t p hm]at ht;have KE:look .dead p h≠.dead:=by rw[ht];simp
  rcases Mm b i J (R.home p b KE hb).2 with a |⟨c,id,_,N⟩
  ·exact R.oa p b i ht hb a
  ·exact(R.gh.loc c id b p N KE hb).elim
 ·have Bk:b<w.heap.size:=aK hb R.cT;rcases Mm b i J Bk with a |⟨c,id,hc,N⟩
  ·exact R.me b i hb a
  ·obtain⟨K,H,E,_,_,u⟩:=d c hc;obtain⟨wr,U,H1,x,e,Y,j,h6,h7⟩:=N;rw[u]at Y;cases Y;rcases R.gh.own c _ _ id x e u j h6 with h8 |h8
   ·omega
   ·exact .inr (h7▸h8)
 ·refine⟨fun c wr U H1 id x a D=> ?_,fun c wr U H1 id a D=> ?_,fun c id b a=> ?_,fun c U H1 id x e a D u=> ?_,fun c1 ME c2 Jd b a D=> ?_,fun c id b i a J=> ?_,fun c id b o a S hb=> ?_,fun c wr V H1 id e a D=> ?_,fun c id e a=>Ki _ _ _ (R.gh.old c id e a),fun c U H1 a=> ?_,fun c id b i a J=> ?_,fun c wr U H1 a=> ?_,fun c U H1 a=> ?_,fun c id e a=> ?_⟩
  ·by_cases hm:c∈ws.map (·.1)
   ·obtain⟨K,H,E,l,M,k3⟩:=d c hm;rw[l]at a;cases a;exact gi.move (w':=w') (g:=g2) (g':={ g with Z:=g2.Z,pm:=g2.pm }) (fun _ _ h=>⟨h,rfl⟩) (fun _ _ _ h=>h) (fun _ _=>rfl) _ x (R.gh.Ff c true _ H k3) (O.gh.ga c true _ _ id x M D)
   ·rw[t c hm]at a;exact gi.mono L (fun e he=>Nc c id e.1 hm ⟨wr,U,H1,x,e,a,D,he,rfl⟩) _ _ (R.gh.ga c wr U H1 id x a D)
  ·by_cases hm:c∈ws.map (·.1)
   ·obtain⟨K,H,E,l,M,k3⟩:=d c hm;rw[l]at a;cases a;exact O.gh.fresh c true _ _ id M D
   ·rw[t c hm]at a;have u:=R.gh.fresh c wr U H1 id a D
    cases Y:g2.pm c id with
    |none=>rfl
    |some e=>
     rcases DT c id e Y with j |j
     ·rw[u]at j;cases j
     ·exact absurd j hm
  ·rcases Je c id b a with⟨_,D⟩|⟨_,D,_⟩
   ·have:=R.gh.lt c id b D;omega
   ·exact O.gh.lt c id b D
  ·by_cases hm:c∈ws.map (·.1)
   ·obtain⟨K,H,E,l,M,k3⟩:=d c hm;rw[l]at a;cases a;rcases O.gh.own c _ _ id x e M D u with j |⟨c2,Jd,Ml,N⟩
    ·have:=R.cT;have j:w.heap.size≤e.1:=j;exact .inl (by omega)
    ·obtain⟨K2,H2,Sp,_,_,q3⟩:=d c2 Ml;obtain⟨wr,K3,H3,x3,e3,h6,h7,h8,h9⟩:=N;rw[q3]at h6;cases h6;rw[←h9];exact R.gh.own c2 _ _ Jd x3 e3 q3 h7 h8
   ·rw[t c hm]at a;rcases DT c id e u with j |j
    ·exact R.gh.own c U H1 id x e a D j
    ·exact absurd j hm
  ·rcases Je c1 ME b a with⟨m1,l⟩|⟨m1,l,q1⟩
   ·rcases Je c2 Jd b D with⟨m2,M⟩|⟨m2,M,q2⟩
    ·exact R.gh.ei _ _ _ _ _ l M
    ·exfalso;rcases q2 with q2 |⟨c3,Kn,Jf,Q⟩
     ·have:=R.gh.lt _ _ _ l;omega
     ·exact m1 ((R.gh.ei _ _ _ _ _ l Q).1▸Jf)
   ·rcases Je c2 Jd b D with⟨m2,M⟩|⟨m2,M,q2⟩
    ·exfalso;rcases q1 with q1 |⟨c3,Kn,Jf,Q⟩
     ·have:=R.gh.lt _ _ _ M;omega
     ·exact m2 ((R.gh.ei _ _ _ _ _ M Q).1▸Jf)
    ·exact O.gh.ei _ _ _ _ _ l M
  ·rcases Je c id b a with⟨m1,l⟩|⟨m1,l,q1⟩
   ·rcases Mm b i J (R.gh.lt _ _ _ l)with j |⟨c3,Kn,Jf,Q⟩
    ·exact R.gh.dC _ _ _ _ l j
    ·exact m1 ((R.gh.ei _ _ _ _ _ l Q).1▸Jf)
   ·exact O.gh.dC _ _ _ _ l J
  ·have S:=I o S;rcases Je c id b a with⟨m1,l⟩|⟨m1,l,q1⟩
   ·exact R.gh.loc _ _ _ o l S hb
   ·rcases q1 with q1 |⟨c3,Kn,Jf,Q⟩
    ·have:=(R.home o b S hb).2;omega
    ·exact R.gh.loc _ _ _ o Q S hb
  ·by_cases hm:c∈ws.map (·.1)
   ·obtain⟨K,H,E,l,M,k3⟩:=d c hm;rw[l]at a;cases a;exact O.gh.Gp c true _ _ id e M D
   ·rw[t c hm]at a;rcases DT c id e D with j |j
    ·exact R.gh.Gp c wr V H1 id e a j
    ·exact absurd j hm
  ·have hm:c∉ws.map (·.1):=fun hm=>by
    obtain⟨K,H,E,l,M,k3⟩:=d c hm;rw[l]at a;cases a
   rw[t c hm]at a;exact R.gh.ro c U H1 a
  ·rcases Je c id b a with⟨m1,l⟩|⟨m1,l,q1⟩
   ·exact R.gh.Ie _ _ _ _ l J
   ·rcases q1 with q1 |⟨c3,Kn,Jf,Q⟩
    ·have:=(R.zp b i J).1;have:=R.cT;omega
    ·exact R.gh.Ie _ _ _ _ Q J
  ·by_cases hm:c∈ws.map (·.1)
   ·obtain⟨K,H,E,l,M,k3⟩:=d c hm;rw[l]at a;cases a;exact R.gh.Ff c true _ H k3
   ·rw[t c hm]at a;exact R.gh.Ff c wr U H1 a
  ·by_cases hm:c∈ws.map (·.1)
   ·obtain⟨K,H,E,l,M,k3⟩:=d c hm;exact R.gh.GD c K H k3
   ·rw[t c hm]at a;exact R.gh.GD c U H1 a
  ·rcases DT c id e a with j |j
   ·exact R.gh.new c id e j
   ·obtain⟨K,H,E,l,M,k3⟩:=d c j;exact .inr (R.gh.GD c K H k3)
end
end
end Go.Am
