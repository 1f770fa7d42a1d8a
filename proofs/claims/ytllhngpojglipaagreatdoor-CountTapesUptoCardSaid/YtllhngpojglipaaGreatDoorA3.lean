import Derived.Test.YtllhngpojglipaaGreatDoorA2
import Derived.Laws.StructEq
import Derived.Laws.BytesArg
import Derived.ChangeKeysEq
import Derived.Laws.Cover3
import Derived.MapKept
import Derived.WideKeyRuns
set_option linter.unusedVariables false
set_option linter.unusedSimpArgs false
open Array renaming getElem?_toList→cC,toList→ej
open Bool renaming and_eq_true→ak,false_eq_true→cn,not_eq_true'→aZ
open List renaming append_nil→cG,cons_append→ev,getElem?_append_left→aP,getElem?_append_right→bc,getElem?_eq_getElem→ai,getElem?_eq_none→bd,getElem?_set_ne→dq,getElem?_set_self→fl,getElem?_take→db,length→af,map_append→eu,map_cons→cb,mem_cons_of_mem→aG,mem_cons_self→aH,mem_of_getElem?→eb
open Nat renaming add_assoc→eZ,blt_eq→eV,eq_of_beq_eq_true→aA,le_refl→az,le_trans→ei,lt_of_lt_of_le→ca,zero_add→dJ
open Go.Value renaming int→bu
open Go.World renaming cell?_of_block→bW
namespace Go.Am
open Go
section
variable {P:Program} {w0:W0} {w w':World} {Z0 Zp:cD} {h h':bm} {g:G} {new next base:Nat} {r:A} {L L':Log} {X:Cx}
theorem cw(c:Yk P X.tt){t:TypeId}{k:TD→HM}{a:A×bm×Log}(e:(kj X t k).eval next h L=some a):∃d,cW t X.tt=some d∧eH P t d∧(k d).eval next h L=some a:=by
 unfold kj at e
 split at e
 ·rename_i d b;exact⟨d,b,c.get b,e⟩
 ·exact(aj e).elim
theorem wF{d:TD}{k:Ty→HM}{a:A×bm×Log}(e:(ON d k).eval next h L=some a):∃τ,d.ty=some τ∧(k τ).eval next h L=some a:=by
 unfold ON at e
 split at e
 ·rename_i τ b;exact⟨τ,b,e⟩
 ·exact(aj e).elim
theorem bY.val(R:HR w0 Z0 Zp h g w){s:Sem Value}{v:Value}(hr:s.run P w= .ok v w)(i:AR w w0.heap.size Zp h g r v):bY P w0 Z0 Zp h g w new (s >>= fun x=>Pure.pure (Next.value x)) r h:=
 bY.pure R (v:=v) (by simp[hr]) i
theorem aka{x:A}{v:Value}{j:Nat}(hx:AR w base Zp h g x v)(e:(abn x j).eval next h L=some (r,h',L')):h'=h∧∃u,(Instr.extract v j).run P w= .ok u w∧AR w base Zp h g r u:=by
 unfold abn at e
 split at e
 ·rename_i ps
  split at e
  ·rename_i q o i;have e:=gH e
   cases e;obtain⟨b,rfl,l⟩:=hx;have c:=dR.get (k:=1) (fun x p ⟨u,a,_⟩=>by rw[a];rfl) ps b l j _ i;obtain⟨u,a,n⟩:=c;have d:b[j]? =some u:=by
    have:=getElem?_sub b (j*1) 1 0 u (by rw[a];rfl);simpa using this
   exact⟨rfl,u,by simp[Instr.extract,d],n⟩
  ·exact(aj e).elim
 ·exact(aj e).elim
theorem FX{f:Int→Int→Int}{k:IntKind}{F:Value→Value→Sem Value}(hF:∀a b,F (.int k a) (.int k b)=pure (.int k (f a b))):∀(as:List A) (vs:List Value) (n:Int),
  dR (fun a j=>∃u,j=[u]∧AR w base Zp h g a u) as vs→(Jc f k n as).eval next h L=some (r,h',L')→h'=h∧∃u,(vs.foldlM F (.int k n)).run P w= .ok u w∧AR w base Zp h g r u
 |[],vs,n,l,e=>by
  simp only[dR]at l;subst l;obtain⟨rfl,rfl,_⟩:=fW e;exact⟨rfl,.int k n,by simp,AR.qF rfl⟩
 |a::as,vs,n,⟨j,d,o,⟨u,p,D⟩,B⟩,e=>by
  subst p;subst o;unfold Jc at e
  split at e
  ·rename_i q;cases q
  ·rename_i I H m J i
   cases i
   split at e
   ·rename_i z _;subst z;have:=D.c;simp only[CR]at this;subst this;obtain⟨t,E,x,y⟩:=FX hF as d _ B e;exact⟨t,E,by simp[List.foldlM_cons,hF,x],y⟩
   ·exact(aj e).elim
  ·exact(aj e).elim
theorem aaY{env:Env}{a:Act}(c:∀t,AR w base Zp h g (look aJ t env) (a.tmps.getD t undef)):∀(xs:List Operand),dR (fun b d=>∃u,d=[u]∧AR w base Zp h g b u) (xs.map (Di env)) (xs.map a.eval)
 |[]=>rfl
 |x::xs=>⟨[a.eval x],_,rfl,⟨_,rfl,dT c x⟩,aaY c xs⟩
theorem abD(R:HR w0 Z0 Zp h g w){env:Env}{a:Act}(n:∀t,AR w w0.heap.size Zp h g (look aJ t env) (a.tmps.getD t undef)):∀(xs:List Operand) (d:List Nat),ahO (xs.map (Di env))=some d→
  dR (fun o p=>g.al o∧∃u,p=[u]∧MU u∧(look .dead o h≠.dead→∃b,g.hm o=some b∧u= .pointer (some ⟨b,0,none⟩))) d (xs.map a.eval)
 |[],d,e=>by simp[ahO,uH]at e;subst e;rfl
 |x::xs,d,e=>by
  have i:=dT n x;simp only[ahO,cb,uH]at e
  split at e
  ·rename_i o k
   split at e
   ·rename_i os l
    cases e;have q:=abD R n xs os l
    split at k
    ·rename_i y j
     cases k;rw[j]at i;exact⟨[a.eval x],_,rfl,⟨i.c.1,_,rfl,i.c.2.1,i.c.2.2⟩,q⟩
    ·cases k
   ·cases e
  ·cases e
theorem ao9{s:List UInt8}{i n:Int}(hx:FQ s i=some n):0≤i∧∃b:UInt8,s[i.toNat]? =some b∧n=(b.toNat:Int):=by
 unfold FQ at hx
 split at hx
 ·rename_i c
  cases a:s[i.toNat]? with
  |none=>simp[a]at hx
  |some b=>simp[a]at hx;exact⟨c,b,rfl,hx.symm⟩
 ·cases hx
theorem axa{α:Type}{xs:Array α}{a b:α}(h:xs.toList=[a,b]):xs= #[a,b]:=by
 apply Array.ext';simpa using h
theorem axb{α:Type}{xs:Array α}{a:α}(h:xs.toList=[a]):xs= #[a]:=by
 apply Array.ext';simpa using h
theorem akb{α β:Type}{f:α→β}{l:List α}{a b:β}(h:l.map f=[a,b]):∃x y,l=[x,y]∧f x=a∧f y=b:=by
 match l,h with
 |[x,y],h=>simp at h;exact⟨x,y,rfl,h.1,h.2⟩
theorem amK{α β:Type}{f:α→β}{l:List α}{a:β}(h:l.map f=[a]):∃x,l=[x]∧f x=a:=by
 match l,h with
 |[x],h=>simp at h;exact⟨x,rfl,h⟩
theorem aqC{t:TypeId}{s:A}{v:Value}{c:Nat}{y:Option (Nat×Nat×Nat)}(b:AR w base Zp h g s v)(a:auX X t s=some (c,y)):CR w base Zp h g (.gs c y) v:=by
 unfold auX at a
 split at a
 ·cases a;exact b.c
 ·split at a
  ·cases a;exact b.c
  ·cases a
 ·cases a
theorem akc(q:Yk P X.tt)(hV:ae1 P X.Ue)(R:HR w0 Z0 Zp h g w)(hn:¬ g.al new){env:Env}{a:Act}(K:∀t,AR w w0.heap.size Zp h g (look aJ t env) (a.tmps.getD t undef)){b:Builtin}{ts:Array TypeId}{ty:TypeId}{i:Array Operand}{cs:Array Bool}
  (e:(abm X new b ts.toList (i.toList.map (Di env))).eval next h L=some (r,h',L')):bY P w0 Z0 Zp h g w new (builtin b ts ty cs (i.map a.eval)) r h':=by
 generalize O:ts.toList=tl at e;generalize o:i.toList.map (Di env)=al at e;unfold abm at e
 split at e
 ·
  rename_i t x;obtain⟨x0,hx0,D⟩:=amK o;have z:=axb O;have has:=axb hx0;subst z;subst has;have B:=dT K x0;rw[D]at B
  split at e
  ·rename_i d Q;have T:=q.get Q
   split at e
   ·rename_i te j;obtain⟨rfl,n,ad,c,S,rfl⟩:=aqo R B e;refine bY.val R (v:=.int .i64 n) ?_ (AR.qF rfl);simp[S,Builtin.len_,run_underlying (T.slice j),goInt]
   ·rename_i s j;obtain⟨rfl,rfl,_⟩:=fW e;have S:=B.c;simp only[CR]at S;refine bY.val R (v:=.int .i64 s.length) ?_ (AR.qF rfl);simp[S,Builtin.len_,run_underlying (T.string j),goInt,Jk]
   ·rename_i n te j;obtain⟨rfl,rfl,_⟩:=fW e;refine bY.val R (v:=.int .i64 n) ?_ (AR.qF rfl);simp[Builtin.len_,run_underlying (T.array j),goInt]
   ·exact(aj e).elim
  ·exact(aj e).elim
 ·
  rename_i t u s x;obtain⟨s0,x0,hsx,hsr,D⟩:=akb o;have z:=axa O;have has:=axa hsx;subst z;subst has;have B:=dT K x0;have hs:=dT K s0;rw[D]at B;rw[hsr]at hs
  split at e
  ·rename_i d du Q J
   split at e
   ·rename_i te tu j p
    split at e
    ·rename_i de I
     split at e
     ·rename_i c y hgs
      split at e
      ·rename_i V hVt N;have:=aj9 (new:=new) (ty:=ty) R (q.get Q) (q.get J) (q.get I) j p (hV.get hVt) (by simpa[eV]using N) (aqC hs hgs) B e;simpa[builtin]using this
      ·exact(aj e).elim
     ·split at e
      ·rename_i τ hτ
       split at e
       ·rename_i hc;simp only[ak]at hc;have:=amH (ty:=ty) R hn (q.get Q) (q.get J) (q.get I) j p hc.2 hτ hs B e;simpa[builtin]using this
       ·exact(aj e).elim
      ·exact(aj e).elim
    ·exact(aj e).elim
   ·exact(aj e).elim
  ·exact(aj e).elim
 ·
  rename_i k n l;have M:=aaY K i.toList;rw[o]at M;obtain⟨es,E,U,⟨u,W,Y⟩,Z⟩:=M;subst W;have H:=Y.c;simp only[CR]at H;subst H;obtain⟨rfl,u,h6,h7⟩:=FX (P:=P) (F:=Builtin.max2) (fun a b=>rfl) l E n Z e;refine bY.val R (v:=u) ?_ h7;simp only[Builtin.max_,Array.toList_map,U,List.singleton_append];exact h6
 ·
  rename_i k n l;have M:=aaY K i.toList;rw[o]at M;obtain⟨es,E,U,⟨u,W,Y⟩,Z⟩:=M;subst W;have H:=Y.c;simp only[CR]at H;subst H;obtain⟨rfl,u,h6,h7⟩:=FX (P:=P) (F:=Builtin.min2) (fun a b=>rfl) l E n Z e;refine bY.val R (v:=u) ?_ h7;simp only[Builtin.min_,Array.toList_map,U,List.singleton_append];exact h6
 ·exact(aj e).elim
end
section
variable {P:Program} {w0:W0} {w w':World} {Z0 Zp:cD} {h h':bm} {g:G} {new next base:Nat} {r:A} {L L':Log} {X:Cx}
theorem toListBytes_eq(a b:List UInt8):((⟨a.toArray⟩:ByteArray).toList==(⟨b.toArray⟩:ByteArray).toList)=(a==b):=by rw[ajZ,ajZ]
theorem Qk{xs Q:Array Value}(d:Nat):∀(D:List Field) (i:Nat) (τs:List Ty) (cs n:List C) (B vs:List Value) (b:Bool),ahV P i D τs=true→asK τs cs n=some b→dM w base Zp h g cs B→dM w base Zp h g n vs→
  (∀j u,B[j]? =some u→xs[i+j]? =some u)→(∀j u,vs[j]? =some u→Q[i+j]? =some u)→(Op.eqFields (d+1) xs Q D).run P w= .ok b w
 |[],i,τs,cs,n,B,vs,b,o,l,R,S,K,N=>by
  cases τs with
  |cons _ _=>cases o
  |nil=>
   cases cs with
   |cons _ _=>cases l
   |nil=>
    cases n with
    |cons _ _=>cases l
    |nil=>cases l;rfl
 |f::D,i,τs,cs,n,B,vs,b,o,l,R,S,K,N=>by
  cases τs with
  |nil=>cases o
  |cons τ τs=>
   cases cs with
   |nil=>cases l
   |cons c cs=>
    cases n with
    |nil=>cases l
    |cons T n=>
     simp only[ahV,ak]at o;obtain⟨⟨⟨W,E⟩,x⟩,o⟩:=o;have E:=aA E;simp only[asK]at l
     split at l
     ·rename_i p q e Y
      cases l;obtain⟨u,B,rfl,y,I⟩:=R;obtain⟨v,vs,rfl,z,J⟩:=S;have Z:=Qk d D (i+1) τs cs n B vs q o Y I J
       (fun j u F=>by have:=K (j+1) u (by simpa using F);rwa[show i+(j+1)=i+1+j by omega]at this)
       (fun j u F=>by have:=N (j+1) u (by simpa using F);rwa[show i+(j+1)=i+1+j by omega]at this)
      have M:xs[f.offset]? =some u:=by rw[E];simpa using K 0 u rfl
      have O:Q[f.offset]? =some v:=by rw[E];simpa using N 0 v rfl
      have t:P.plainKey f.type=true∧(Op.equalIn (d+1) f.type u v).run P w= .ok p w:=by
       cases a:P.underlying f.type with
       |none=>rw[a]at x;cases τ<;>cases x
       |some k=>
        rw[a]at x
        cases c<;>cases T<;>simp only[eqC]at e<;>try (cases e;done)
        ·split at e
         ·cases e
          cases k<;>first |(cases x;done)|skip
          simp only[CR]at y z;subst y;subst z;exact⟨by simp[Program.plainKey,a],Go.run_equalIn_bool w d _ _ _ a⟩
         ·cases e
        ·split at e
         ·rename_i q0
          split at e
          ·rename_i U V _ _
           cases e
           cases k<;>first |(cases x;done)|skip
           simp only[CR]at y z;subst y;subst z;subst U;subst V;exact⟨by simp[Program.plainKey,a],run_equalIn_int w d _ _ _ _ _ a⟩
          ·cases e
         ·cases e
        ·split at e
         ·cases e
          cases k<;>first |(cases x;done)|skip
          simp only[CR]at y z;subst y;subst z;rename_i s1 s2 _;have:=run_equalIn_string w d _ ⟨s1.toArray⟩ ⟨s2.toArray⟩ a;rw[toListBytes_eq]at this;exact⟨by simp[Program.plainKey,a],this⟩
         ·cases e
      have H:f.name≠ "_":=by simpa using W
      simp only[Op.eqFields,if_pos H,Sem.run_bind,run_part_plain w t.1 M,run_part_plain w t.1 O,t.2,Result.andThen_ok]
      cases p with
      |true=>simpa using Z
      |false=>simp
     ·cases l
theorem asU{op:BinOp}{t:TypeId}{d:TD}(T:eH P t d){x y:Operand}{cs:List C}{H:A}{D E:Value}(hx:AR w base Zp h g (.v true cs) D)(M:AR w base Zp h g H E)(e:(eqA op d cs H).eval next h L=some (r,h',L')):
  h'=h∧∃c v,r= .v false [c]∧(do eqGuard op t x y D E;binOp op t D E:Sem Value).run P w= .ok v w∧CR w base Zp h g c v:=by
 unfold eqA at e
 split at e
 ·rename_i τ τs I k
  split at e
  ·rename_i b J;obtain⟨z,rfl,p⟩:=hx;obtain⟨B,rfl,q⟩:=M;have a:agv P t d.eq=true:=by
    rcases T.eq with h |h
    ·rw[k]at h;cases h
    ·exact h
   unfold agv at a
   split at a
   ·rename_i F n;simp only[ak,aZ]at a;have l:P.fieldsOf t=F:=by simp[Program.fieldsOf,n]
    have i:(Op.equalIn 10000 t (.agg z.toArray) (.agg B.toArray)).run P w= .ok b w:=by
     rw[run_equalIn_struct w 9999 t _ _ (by rw[l];exact n) a.1.1,l];exact Qk 9998 F.toList 0 d.eq cs I z B b a.2 (by rw[k];exact J) p q (fun j u o=>by simpa using o) (fun j u o=>by simpa using o)
    have K:=run_eqGuard_agg (P:=P) w op t x y z.toArray B.toArray a.1.2;simp only[Sem.run_bind,K,Result.andThen_ok]
    split at e
    ·obtain⟨rfl,rfl,_⟩:=kB e;exact⟨rfl,_,_,rfl,by rw[run_eql_struct,i];rfl,rfl⟩
    ·obtain⟨rfl,rfl,_⟩:=kB e;exact⟨rfl,_,_,rfl,by rw[run_neq_struct,i];rfl,rfl⟩
    ·exact(aj e).elim
   ·cases a
  ·exact(aj e).elim
 ·exact(aj e).elim
theorem aqD{op:BinOp}{t:TypeId}{d:TD}(T:eH P t d){x y:Operand}{ty:Ty}{l:List ty.den}{tk:Tok}{z:A}{k u:Value}(hx:AR w base Zp h g (.v false [.sl ty l tk]) k)(E:AR w base Zp h g z u)(e:(auU op d tk z).eval next h L=some (r,h',L')):
  h'=h∧∃c v,r= .v false [c]∧(do eqGuard op t x y k u;binOp op t k u:Sem Value).run P w= .ok v w∧CR w base Zp h g c v:=by
 unfold auU at e
 split at e
 ·rename_i F p;have D:=T.slice p;have o:=E.c;simp only[CR]at o;subst o;have q:=hx.c;obtain⟨_,i⟩:=q;have j:∀(a:Option Addr) (n c:Nat),k= .slice a n c→(do eqGuard .eql t x y k (.slice none 0 0);binOp .eql t k (.slice none 0 0):Sem Value).run P w= .ok (.bool a.isNone) w∧(do eqGuard .neq t x y k (.slice none 0 0);binOp .neq t k (.slice none 0 0):Sem Value).run P w= .ok (.bool (!a.isNone)) w:=by
   intro a n c b;subst b;have B:∀op,(eqGuard op t x y (.slice a n c) (.slice none 0 0)).run P w= .ok () w:=fun op=>by cases op<;>simp[eqGuard]
   simp only[Sem.run_bind,B,Result.andThen_ok];have:=Go.run_equal_slice_nil w t F a n c D;constructor<;>simp[binOp,this]
  split at e
  ·obtain⟨a,n,c,b⟩:=i;obtain⟨rfl,rfl,_⟩:=kB e;exact⟨rfl,_,_,rfl,(j _ _ _ b).1,rfl⟩
  ·obtain⟨a,n,c,b⟩:=i;obtain⟨rfl,rfl,_⟩:=kB e;exact⟨rfl,_,_,rfl,(j _ _ _ b).2,rfl⟩
  ·obtain⟨n,c,b⟩:=i;obtain⟨rfl,rfl,_⟩:=kB e;exact⟨rfl,_,_,rfl,(j _ _ _ b).1,rfl⟩
  ·obtain⟨n,c,b⟩:=i;obtain⟨rfl,rfl,_⟩:=kB e;exact⟨rfl,_,_,rfl,(j _ _ _ b).2,rfl⟩
  ·exact(aj e).elim
 ·exact(aj e).elim
theorem akd{k:IntKind}:∀(l:List Int) (vs:List Value),dR (PR w Z0 Zp (.int k)) l vs→vs=l.map (bu k)
 |[],vs,h=>h
 |n::l,vs,⟨c,a,e,b,d⟩=>by
  have b:c=[.int k n]:=b;rw[e,b,akd l a d];rfl
theorem apa{src c e:TypeId}(B:P.underlying src=some (.slice e))(z:P.underlying e=some (.int .u8))(y:P.underlying c=some .string){l:List Int}{v:Value}(I:PR w Z0 Zp (.sl (.int .u8)) l [v]):
  (convert src c v).run P w= .ok (.string ⟨(bytesOf l).toArray⟩) w:=by
 obtain⟨D,d,J,E,K,i,t⟩:=I
 cases E;have i:=akd l J i;subst i
 cases D with
 |none=>
  have p:l=[]:=by
   cases l with
   |nil=>rfl
   |cons n l=>
    obtain⟨b,q,k,_⟩:=t (by simp)
    cases k
  subst p;rw[run_convert_bytes_string w src c e _ _ _ B z y];simp[Conv.bytesToString,bytesOf];rfl
 |some a=>
  have p:(loadCells a l.length).run P w= .ok (l.map (bu .u8)).toArray w:=by
   have:=run_loadCells_list (P:=P) w a (l.map (bu .u8)) (fun j u o=>by
    obtain⟨b,q,k,H⟩:=t (by intro F;rw[F]at o;simp at o)
    cases k;rw[iQ];exact(H j u o).1)
   simpa using this
  have x:=run_bytesToString w a l.length d l p;rw[foldl_push_bytes]at x;refine(run_convert_bytes_string w src c e (some a) l.length d B z y).trans (x.trans ?_);simp[bytesOf,ByteArray.empty,ByteArray.emptyWithCapacity];rfl
end
open Go Go.MapKept
theorem BL:∀τ:Ty,τ.isKey=true→τ.cE=true
 |.bool,_ |.int _,_ |.str,_ |.unit,_=>rfl
 |.sl _,h |.ref _,h |.fn _,h |.cl _ _,h=>by simp[Ty.isKey]at h
 |.pair a b,h=>by
  simp[Ty.isKey]at h;simp[Ty.cE,BL a h.1,BL b h.2]
theorem wG:∀(τ:Ty) (x:τ.den),τ.isKey=true→(τ.vals x).length=τ.size
 |.bool,_,_ |.int _,_,_ |.str,_,_ |.unit,_,_=>rfl
 |.sl _,_,h |.ref _,_,h |.fn _,_,h |.cl _ _,_,h=>by simp[Ty.isKey]at h
 |.pair a b,x,h=>by
  simp[Ty.isKey]at h;simp[Ty.vals,Ty.size,wG a x.1 h.1,wG b x.2 h.2]
theorem Ql:∀(τ:Ty) (x y:τ.den),τ.isKey=true→τ.vals x=τ.vals y→x=y
 |.bool,x,y,_,e=>by
  have e:[Value.bool x]=[Value.bool y]:=e
  cases e;rfl
 |.int k,x,y,_,e=>by
  have e:[bu k x]=[bu k y]:=e
  cases e;rfl
 |.str,x,y,_,e=>by
  have e:[Value.string ⟨(show List UInt8 from x).toArray⟩]=[Value.string ⟨(show List UInt8 from y).toArray⟩]:=e;simp only[List.cons.injEq,Value.string.injEq,ByteArray.mk.injEq,and_true]at e;have:=congrArg ej e;exact(show(show List UInt8 from x)=(show List UInt8 from y)by simpa using this)
 |.unit,_,_,_,_=>rfl
 |.sl _,_,_,h,_ |.ref _,_,_,h,_ |.fn _,_,_,h,_ |.cl _ _,_,_,h,_=>by simp[Ty.isKey]at h
 |.pair a b,x,y,h,e=>by
  simp[Ty.isKey]at h;have e:a.vals x.1++b.vals x.2=a.vals y.1++b.vals y.2:=e;have i:(a.vals x.1).length=(a.vals y.1).length:=by rw[wG a _ h.1,wG a _ h.1]
  obtain⟨c,d⟩:=List.append_inj e i;exact Prod.ext (Ql a _ _ h.1 c) (Ql b _ _ h.2 d)
theorem vn:∀(τ:Ty) (x y:τ.den),τ.isKey=true→(τ.Jb x y=true↔x=y)
 |.bool,x,y,_=>by
  show((show Bool from x)==(show Bool from y))=true↔_;exact beq_iff_eq
 |.int k,x,y,_=>by
  show((show Int from x)==(show Int from y))=true↔_;exact beq_iff_eq
 |.str,x,y,_=>by
  show((show List UInt8 from x)==(show List UInt8 from y))=true↔_;exact beq_iff_eq
 |.unit,_,_,_=>⟨fun _=>rfl,fun _=>rfl⟩
 |.sl _,_,_,h |.ref _,_,_,h |.fn _,_,_,h |.cl _ _,_,_,h=>by simp[Ty.isKey]at h
 |.pair a b,x,y,h=>by
  simp[Ty.isKey]at h;simp only[Ty.Jb,ak,vn a _ _ h.1,vn b _ _ h.2];exact⟨fun⟨c,d⟩=>Prod.ext c d,fun e=>by rw[e];exact⟨rfl,rfl⟩⟩
theorem FV.inj{τ:Ty}{x y:τ.den}{v:Value}(D:τ.isKey=true)(j:FV τ x v)(i:FV τ y v):x=y:=by
 unfold FV at j i
 split at j<;>rename_i E<;>rw[E]at i<;>simp only at i
 ·rw[j]at i;simp only[Value.agg.injEq]at i;have:=congrArg ej i;exact Ql τ x y D (by simpa using this)
 ·exact Ql τ x y D (j.trans i.symm)
theorem FV.same{τ:Ty}{x:τ.den}{v u:Value}(j:FV τ x v)(i:FV τ x u):v=u:=by
 unfold FV at j i
 split at j<;>rename_i y<;>rw[y]at i<;>simp only at i
 ·rw[j,i]
 ·rw[j]at i;cases i;rfl
section
variable {P:Program} {w0:W0} {w w':World} {Z0 Zp:cD} {h h':bm} {g:G} {new next base:Nat} {r:A} {L L':Log} {X:Cx}
theorem aqE{τ:Ty}(b:τ.isKey=true){e:Bool}{cs:List C}{x:τ.den}{v:Value}(a:e=τ.isAgg)(c:VR w base Zp h g e cs v)(j:τ.dC cs=some x):FV τ x v:=by
 unfold FV
 cases i:τ.isAgg with
 |true=>
  rw[a,i]at c;obtain⟨k,rfl,d⟩:=c;have:=(PR.vals τ x k b).1 (ez (BL τ b) d j);rw[this]
 |false=>
  rw[a,i]at c;have d:dM w base Zp h g cs [v]:=c;exact((PR.vals τ x [v] b).1 (ez (BL τ b) d j)).symm
theorem axc{τ:Ty}(d:τ.isKey=true){x:τ.den}{v:Value}(a:FV τ x v):VR w base Zp h g τ.isAgg (τ.cells x) v:=by
 have b:dM w base Zp h g (τ.cells x) (τ.vals x):=dM.ar2 τ x _ ((PR.vals τ x _ d).2 rfl);unfold FV at a
 cases c:τ.isAgg with
 |true=>rw[c]at a;exact⟨_,a,b⟩
 |false=>
  rw[c]at a;have a:τ.vals x=[v]:=a;rw[a]at b;exact b
theorem OS:∀τ:Ty,τ.isKey=true→τ.lK=τ.vals τ.zero
 |.bool,_ |.int _,_ |.str,_ |.unit,_=>rfl
 |.sl _,h |.ref _,h |.fn _,h |.cl _ _,h=>by simp[Ty.isKey]at h
 |.pair a b,h=>by
  simp[Ty.isKey]at h;show a.lK++b.lK=a.vals a.zero++b.vals b.zero;rw[OS a h.1,OS b h.2]
theorem asV{t:TypeId}{d:TD}(T:eH P t d){τ:Ty}(hz:d.zero=true)(k:d.ty=some τ)(n:τ.isKey=true):∃z,(zeroValue t).run P w= .ok z w∧FV τ τ.zero z:=by
 obtain⟨i,z,l,_,_,e,a,c⟩:=T.zeroV hz k;refine⟨z,by simp[zeroValue,typeInfo,l,e],?_⟩;have b:=(T.Um k).2.1;rw[OS τ n]at a;unfold FV
 cases j:τ.isAgg with
 |true=>
  rw[←b,j]at c
  cases z<;>simp[ajY]at c;simp only[Value.cells]at a;show Value.agg _= .agg _;rw[←a]
 |false=>
  rw[←b,j]at c;show τ.vals τ.zero=[z];rw[←a]
  cases z<;>simp[ajY]at c<;>rfl
def Found(a:List MapEntry)(kv:Value)(r:Option (Nat×Value)):Prop:=
 (r=none∧∀e∈a,e.key≠kv)∨∃j e,r=some (j,e.val)∧a[j]? =some e∧e.key=kv
theorem Qm{tk:TypeId}{kv:Value}:∀(c:List MapEntry) (i:Nat),(∀e∈c,∃b,(Op.equal tk kv e.key).run P w= .ok b w∧(b=true↔e.key=kv))→
  ∃r,(Instr.findAsking tk kv c i).run P w= .ok r w∧((r=none∧∀e∈c,e.key≠kv)∨∃j e,r=some (i+j,e.val)∧c[j]? =some e∧e.key=kv)
 |[],i,_=>⟨none,rfl,.inl ⟨rfl,fun e h=>by cases h⟩⟩
 |e::c,i,H=>by
  obtain⟨b,k,l⟩:=H e aH;obtain⟨r,p,t⟩:=Qm c (i+1) fun e x=>H e (aG _ x)
  cases b with
  |true=>
   exact⟨_,by simp only[Instr.findAsking,Sem.run_bind,k,Result.andThen_ok,if_true];rfl,.inr ⟨0,e,rfl,rfl,l.1 rfl⟩⟩
  |false=>
   refine⟨r,by simp only[Instr.findAsking,Sem.run_bind,k,Result.andThen_ok];simpa using p,?_⟩;rcases t with⟨rfl,d⟩|⟨j,n,rfl,d,u⟩
   ·refine .inl ⟨rfl,fun o a=> ?_⟩;rcases List.mem_cons.1 a with rfl |a
    ·exact fun q=>by have:=l.2 q;cases this
    ·exact d o a
   ·exact .inr ⟨j+1,n,by rw[show i+(j+1)=i+1+j by omega],by simpa using d,u⟩
def Ty.ints(k:IntKind):(τ:Ty)→τ.den→List Int
 |.int _,n=>[n]
 |.pair a b,x=>a.ints k x.1++b.ints k x.2
 |_,_=>[]
theorem En{k:IntKind}:∀(τ:Ty) (x:τ.den),τ.Uf k=true→τ.isKey=true∧τ.vals x=(τ.ints k x).map (bu k)
 |.int q,x,c=>by
  simp only[Ty.Uf]at c
  split at c
  ·rename_i e _;subst e;exact⟨rfl,rfl⟩
  ·cases c
 |.unit,_,_=>⟨rfl,rfl⟩
 |.pair a b,x,c=>by
  simp only[Ty.Uf,ak]at c;obtain⟨d,i⟩:=En a x.1 c.1;obtain⟨j,l⟩:=En b x.2 c.2;refine⟨by simp[Ty.isKey,d,j],?_⟩;show a.vals x.1++b.vals x.2=(a.ints k x.1++b.ints k x.2).map _;rw[i,l,eu]
 |.bool,_,c |.str,_,c |.sl _,_,c |.ref _,_,c |.fn _,_,c |.cl _ _,_,c=>by cases c
theorem abE{k:IntKind}{e:TypeId}(o:P.underlying e=some (.int k))(d:Nat)(a b:List Int)(y:a.length=b.length):∀n:List Nat,(∀i∈n,i<a.length)→
  ∃r,(Op.eqItems (d+1) e 1 (a.map (bu k)).toArray (b.map (bu k)).toArray n).run P w= .ok r w∧(r=true↔∀i∈n,a[i]? =b[i]?)
 |[],_=>⟨true,rfl,by simp⟩
 |i::n,q=>by
  obtain⟨r,u,x⟩:=abE o d a b y n fun j l=>q j (aG _ l);have p:=q i aH;have t:P.plainKey e=true:=by simp[Program.plainKey,o]
  have B:(a.map (bu k)).toArray[i*1]? =some (.int k a[i]):=by simp[p]
  have D:(b.map (bu k)).toArray[i*1]? =some (.int k (b[i]'(by omega))):=by simp[show i<b.length by omega]
  have z:=run_equalIn_int (P:=P) w d e k k a[i] (b[i]'(by omega)) o;simp only[Op.eqItems,Sem.run_bind,run_part_plain w t B,run_part_plain w t D,z,Result.andThen_ok]
  by_cases c:a[i]=b[i]'(by omega)
  ·refine⟨r,by simp[c,u],?_⟩;rw[x];refine⟨fun H j l=> ?_,fun H j l=>H j (aG _ l)⟩;rcases List.mem_cons.1 l with rfl |l
   ·simp[p,show j<b.length by omega,c]
   ·exact H j l
  ·refine⟨false,by simp[c],?_⟩;simp only[cn,false_iff];intro H;have:=H i aH;simp[p,show i<b.length by omega]at this;exact c this
theorem ake{k:IntKind}{tk e:TypeId}{n:Nat}{i:TypeInfo}(t:P.underlying tk=some (.array n e))(o:P.underlying e=some (.int k))(hi:P.info? e=some i)(q:i.size=1){a b:List Int}(u:a.length=n)(x:b.length=n):
  ∃r,(Op.equal tk (.agg (a.map (bu k)).toArray) (.agg (b.map (bu k)).toArray)).run P w= .ok r w∧(r=true↔b=a):=by
 have l:P.cellsOf e=1:=by simp[Program.cellsOf,hi,q]
 obtain⟨r,c,d⟩:=abE (w:=w) o 9998 a b (by omega) (List.range n) fun i hi=>by simp at hi;omega
 refine⟨r,?_,?_⟩
 ·show(Op.equalIn (9999+1) tk _ _).run P w=_;rw[run_equalIn_array w 9999 _ _ t hi,l];exact c
 ·rw[d];refine⟨fun H=> ?_,fun e i _=>by rw[e]⟩;apply List.ext_getElem?;intro j
  by_cases p:j<n
  ·exact(H j (by simpa using p)).symm
  ·rw[bd (by omega),bd (by omega)]
theorem akf{k:IntKind}{tk e:TypeId}{n:Nat}{i:TypeInfo}(u:P.underlying tk=some (.array n e))(l:P.underlying e=some (.int k))(hi:P.info? e=some i)(t:i.size=1){a:List Int}(B:a.length=n)(em:Bool):
  (Instr.checkKey em 10000 tk (.agg (a.map (bu k)).toArray)).run P w= .ok () w:=by
 have q:P.plainKey e=true:=by simp[Program.plainKey,l]
 obtain⟨m,p⟩:∃m,(10000:Nat)=m+1+1:=⟨9998,rfl⟩;rw[p,Instr.checkKey];simp only[Sem.run_bind,run_underlying u,Result.andThen_ok];simp only[Std.Legacy.Range.forIn_eq_forIn_range',Std.Legacy.Range.size,Nat.sub_zero,Nat.add_one_sub_one,Nat.div_one];have d:∀c:List Nat,(∀j∈c,j<a.length)→Sem.run P (forIn c PUnit.unit fun i (_:PUnit)=>do
   Instr.checkKey em (m+1) e (←part e (a.map (bu k)).toArray (i*(←sizeOf e)))
   pure (ForInStep.yield PUnit.unit)) w= .ok PUnit.unit w:=by
  intro c
  induction c with
  |nil=>intro _;rfl
  |cons j c z=>
   intro H;have b:=H j aH;have x:(a.map (bu k)).toArray[j*1]? =some (.int k a[j]):=by simp[b]
   have y:(sizeOf e).run P w= .ok 1 w:=by simp[Go.sizeOf,typeInfo,hi,t]
   have o:(Instr.checkKey em (m+1) e (.int k a[j])).run P w= .ok () w:=by
    simp only[Instr.checkKey,Sem.run_bind,run_underlying l,Result.andThen_ok];rfl
   rw[List.forIn_cons];simp only[Sem.run_bind,y,Result.andThen_ok];rw[run_part_plain w q x];simp only[Result.andThen_ok];rw[o];simp only[Result.andThen_ok,Sem.run_pure];exact z fun j b=>H j (aG _ b)
 rw[d (List.range' 0 n) fun j b=>by simp at b;omega];rfl
theorem ah3(hX:Yk P X.tt){tk:TypeId}{k:Ty}(o:aog X tk=some k):k.isKey=true∧∀(x:k.den) (kv:Value),FV k x kv→
  (∀em,(Instr.checkKey em 10000 tk kv).run P w= .ok () w)∧(Instr.keyThatStays kv kv).run P w= .ok kv w∧
  ∀z:List MapEntry,(∀e∈z,∃y,FV k y e.key)→∃r,(Instr.findKey tk kv z).run P w= .ok r w∧Found z kv r:=by
 unfold aog at o
 split at o
 ·rename_i d hd;have T:=hX.get hd
  split at o
  ·rename_i K q D R
   split at o
   ·rename_i e _;subst e
    cases o;have F:=T.int D;refine⟨rfl,fun x kv c=> ?_⟩;have c:kv= .int K x:=by
     have c:[bu K x]=[kv]:=c
     cases c;rfl
    subst c;have p:IsKey (.int K) (.int K x):=by simp[IsKey]
    refine⟨fun em=>run_checkKey F p em 9999,run_keyThatStays p,fun z E=> ?_⟩;have I:∀e∈z,IsKey (.int K) e.key:=by
     intro e N;obtain⟨y,u⟩:=E e N;have u:[bu K y]=[e.key]:=u;simp only[List.cons.injEq,and_true]at u;rw[←u];simp[IsKey]
    rcases findNow_spec p z 0 I with⟨t,B⟩|⟨j,e,t,B,M⟩
    ·exact⟨none,run_findKey F t,.inl ⟨rfl,B⟩⟩
    ·rw[dJ]at t;exact⟨_,run_findKey F t,.inr ⟨j,e,rfl,B,M⟩⟩
   ·cases o
  ·rename_i D R
   cases o;have F:=T.string D;refine⟨rfl,fun x kv c=> ?_⟩;have c:kv= .string ⟨(show List UInt8 from x).toArray⟩:=by
    have c:[Value.string ⟨(show List UInt8 from x).toArray⟩]=[kv]:=c
    cases c;rfl
   subst c;have p:IsKey .string (.string ⟨(show List UInt8 from x).toArray⟩):=by simp[IsKey]
   refine⟨fun em=>run_checkKey F p em 9999,run_keyThatStays p,fun z E=> ?_⟩;have I:∀e∈z,IsKey .string e.key:=by
    intro e N;obtain⟨y,u⟩:=E e N;have u:[Value.string ⟨(show List UInt8 from y).toArray⟩]=[e.key]:=u;simp only[List.cons.injEq,and_true]at u;rw[←u];simp[IsKey]
   rcases findNow_spec p z 0 I with⟨t,B⟩|⟨j,e,t,B,M⟩
   ·exact⟨none,run_findKey F t,.inl ⟨rfl,B⟩⟩
   ·rw[dJ]at t;exact⟨_,run_findKey F t,.inr ⟨j,e,rfl,B,M⟩⟩
  ·rename_i n e τ D R
   split at o
   ·rename_i de Z;have Te:=hX.get Z
    split at o
    ·rename_i q hdq
     split at o
     ·rename_i hc;simp only[ak]at hc;obtain⟨⟨⟨t,B⟩,M⟩,W⟩:=hc;have t:=aA t;have B:=aA B
      cases o;have F:=T.array D;have S:=Te.int hdq;obtain⟨i,hi,Q,_⟩:=Te.inf;have J:∀x:k.den,(k.ints q x).length=n:=by
       intro x;obtain⟨g1,H⟩:=En (k:=q) k x W;have:=wG k x g1;rw[H]at this;simpa[B]using this
      have O:∀(x:k.den) (v:Value),FV k x v→v= .agg ((k.ints q x).map (bu q)).toArray:=by
       intro x v c;unfold FV at c;rw[M]at c;have c:v= .agg (k.vals x).toArray:=c;rw[c,(En (k:=q) k x W).2]
      refine⟨(En (k:=q) k k.zero W).1,fun x kv c=> ?_⟩;have hkv:=O x kv c;subst hkv;refine⟨fun em=>akf F S hi (Q.trans t) (J x) em,?_,fun z E=> ?_⟩
      ·have hsb:∀n (l:List Int),((l.map (bu q)).zip (l.map (bu q))).all (fun(x,y)=>Instr.sameBits n x y)=true:=by
        intro n l
        induction l with
        |nil=>rfl
        |cons a l ih=>
         simp only[cb,List.zip_cons_cons,List.all_cons,ih,Bool.and_true];simp[Instr.sameBits]
       have:Instr.sameBits 10000 (.agg ((k.ints q x).map (bu q)).toArray) (.agg ((k.ints q x).map (bu q)).toArray)=true:=by
        rw[show(10000:Nat)=9999+1 from rfl,Instr.sameBits];simpa using hsb 9999 (k.ints q x)
       simp[Instr.keyThatStays,this]
      ·have hw2:(match P.underlying tk with |some (.array _ _)|some (.struct _)=>true |_=>false)=true:=by rw[F]
       rw[run_findKey_eq w hw2];obtain⟨r,g1,H⟩:=Qm (P:=P) (w:=w) (tk:=tk) (kv:=.agg ((k.ints q x).map (bu q)).toArray) z 0 (by
        intro e N;obtain⟨y,u⟩:=E e N;have u:=O y _ u;obtain⟨b,U,V⟩:=ake (w:=w) F S hi (Q.trans t) (J x) (J y);refine⟨b,by rw[u];exact U,?_⟩;rw[V,u];constructor
        ·intro e;rw[e]
        ·intro e;simp only[Value.agg.injEq]at e;have:=congrArg ej e;simp only at this;exact(List.map_inj_right (fun a b Y=>by cases Y;rfl)).1 this)
       refine⟨r,g1,?_⟩;rcases H with H |⟨j,e,H,U,V⟩
       ·exact .inl H
       ·rw[dJ]at H;exact .inr ⟨j,e,H,U,V⟩
     ·cases o
    ·cases o
   ·cases o
  ·cases o
 ·cases o
theorem agz{k v:Ty}(b:k.isKey=true){x:k.den}:∀l:List (k.den×v.den),(∀p∈l,p.1≠x)→IY k.Jb l x=none
 |[],_=>rfl
 |p::l,a=>by
  have c:k.Jb x p.1=false:=by
   cases d:k.Jb x p.1 with
   |false=>rfl
   |true=>exact absurd ((vn k _ _ b).1 d).symm (a p aH)
  simp only[IY,c];exact agz b l fun q e=>a q (aG _ e)
theorem agA{k v:Ty}(b:k.isKey=true){x:k.den}{y:v.den}:∀(l:List (k.den×v.den)) (j:Nat),(l.map (·.1)).Nodup→l[j]? =some (x,y)→IY k.Jb l x=some y
 |[],j,_,a=>by simp at a
 |p::l,0,_,a=>by
  simp at a;subst a;simp only[IY,(vn k x x b).2 rfl]
 |p::l,j+1,c,a=>by
  have a:l[j]? =some (x,y):=by simpa using a
  simp only[cb,List.nodup_cons]at c;have d:k.Jb x p.1=false:=by
   cases e:k.Jb x p.1 with
   |false=>rfl
   |true=>
    exfalso;apply c.1;rw[←(vn k _ _ b).1 e];exact List.mem_map.2 ⟨(x,y),eb a,rfl⟩
  simp only[IY,d];exact agA b l j c.2 a
theorem L7{k v:Ty}(b:k.isKey=true){x:k.den}{z:v.den}:∀l:List (k.den×v.den),(∀p∈l,p.1≠x)→OJ k.Jb l x z=l++[(x,z)]
 |[],_=>rfl
 |p::l,a=>by
  have c:k.Jb x p.1=false:=by
   cases d:k.Jb x p.1 with
   |false=>rfl
   |true=>exact absurd ((vn k _ _ b).1 d).symm (a p aH)
  simp only[OJ,c,ev];rw[L7 b l fun q e=>a q (aG _ e)]
theorem agB{k v:Ty}(b:k.isKey=true){x:k.den}{y z:v.den}:∀(l:List (k.den×v.den)) (j:Nat),(l.map (·.1)).Nodup→l[j]? =some (x,y)→OJ k.Jb l x z=l.set j (x,z)
 |[],j,_,a=>by simp at a
 |p::l,0,_,a=>by
  simp at a;subst a;simp only[OJ,(vn k x x b).2 rfl,List.set_cons_zero]
 |p::l,j+1,c,a=>by
  have a:l[j]? =some (x,y):=by simpa using a
  simp only[cb,List.nodup_cons]at c;have d:k.Jb x p.1=false:=by
   cases e:k.Jb x p.1 with
   |false=>rfl
   |true=>
    exfalso;apply c.1;rw[←(vn k _ _ b).1 e];exact List.mem_map.2 ⟨(x,y),eb a,rfl⟩
  simp only[OJ,d,List.set_cons_succ];rw[agB b l j c.2 a]
theorem aoY.keys{k v:Ty}{l:List (k.den×v.den)}{es:List MapEntry}(h:aoY k v l es):∀e∈es,∃y,FV k y e.key:=by
 intro e D;obtain⟨j,i⟩:=List.mem_iff_getElem?.1 D;obtain⟨p,E⟩:∃p,l[j]? =some p:=by
  have:j<es.length:=(List.getElem?_eq_some_iff.1 i).1;exact⟨_,ai (by rw[h.1];exact this)⟩
 exact⟨p.1,(h.2 j p e E i).1⟩
theorem abF{k v:Ty}{l:List (k.den×v.den)}{b:List MapEntry}(h:aoY k v l b){x:k.den}{kv:Value}(hx:FV k x kv)(i:∀e∈b,e.key≠kv):∀p∈l,p.1≠x:=by
 intro p n e;obtain⟨j,d⟩:=List.mem_iff_getElem?.1 n;have c:j<l.length:=(List.getElem?_eq_some_iff.1 d).1;have a:b[j]? =some (b[j]'(by rw[←h.1];exact c)):=ai _
 have:=(h.2 j p _ d a).1;rw[e]at this;exact i _ (eb a) (this.same hx)
theorem abG{k v:Ty}(p:k.isKey=true){l:List (k.den×v.den)}{b:List MapEntry}(h:aoY k v l b){x:k.den}{kv:Value}(hx:FV k x kv){j:Nat}{e:MapEntry}(i:b[j]? =some e)(o:e.key=kv):∃y,l[j]? =some (x,y)∧FV v y e.val:=by
 have c:j<b.length:=(List.getElem?_eq_some_iff.1 i).1;have a:l[j]? =some (l[j]'(by rw[h.1];exact c)):=ai _
 obtain⟨d,n⟩:=h.2 j _ _ a i;rw[o]at d;have:=d.inj p hx;exact⟨_,by rw[a,←this],n⟩
theorem OT{k v b c:Ty}{l:List (k.den×v.den)}{m:List (b.den×c.den)}(a:FS k v b c l=some m):∃(h:k=b) (h':v=c),m=h▸h'▸l:=by
 unfold FS at a
 split at a
 ·rename_i h h' _ _
  cases a;exact⟨h,h',rfl⟩
 ·cases a
theorem Jn(b:Yk P X.tt){tk a:TypeId}{k v:Ty}(hm:Jd X tk a=some (k,v)):aog X tk=some k∧v.isKey=true∧∃d,eH P a d∧d.zero=true∧d.ty=some v:=by
 unfold Jd at hm
 split at hm
 ·rename_i q d i c
  split at hm
  ·rename_i u l j
   split at hm
   ·rename_i e
    cases hm;exact⟨i,e,d,b.get c,l,j⟩
   ·cases hm
  ·cases hm
 ·cases hm
theorem eH.map{t:TypeId}{d:TD}(T:eH P t d){tk j:TypeId}(hd:d.desc= .map tk j):P.underlying t=some (.map tk j):=by
 obtain⟨y,D,i⟩:=T.under;rw[hd]at i
 cases y<;>simp[BI]at i;rw[D,i.1,i.2]
theorem akg(d:Yk P X.tt)(R:HR w0 Z0 Zp h g w)(i:¬ g.al new){t tk y:TypeId}{k v:Ty}(hm:Jd X tk y=some (k,v)):
  bY P w0 Z0 Zp h g w new (do pure (.value (←Instr.makeMap t none))) (.v false [.mp new]) ((new,.map k v [])::h):=by
 obtain⟨l,n,_⟩:=Jn d hm;have u:=(ah3 (P:=P) (w:=w) d l).1;have c:(w.alloc (.map #[] 0)).heap=w.heap.push (.map #[] 0):=rfl;have a:(w.alloc (.map #[] 0)).heap[w.heap.size]? =some (.map #[] 0):=by rw[c];simp
 have b:=Le.alloc R i (.map k v []) 0 c;refine⟨_,.map (some w.heap.size),_,_,?_,.inl rfl,R.alloc i (.map k v []) 0 c (R.ext.alloc _) ⟨u,n,by simp,w.heap.size,#[],0,uK _ _ _ _,a,rfl,fun j p e q=>by simp at q⟩ (fun _=>rfl),b,AR.qF ⟨.inr rfl,⟨_,rfl⟩,fun _=>⟨_,uK _ _ _ _,rfl⟩⟩,fun o x=>x⟩;simp[Instr.makeMap,newObj,Sem.run]
theorem amL(hX:Yk P X.tt)(R:HR w0 Z0 Zp h g w){t tk tv:TypeId}{d:TD}(T:eH P t d)(hd:d.desc= .map tk tv){k v:Ty}(hm:Jd X tk tv=some (k,v)){x ix:A}{vx E:Value}(hx:AR w w0.heap.size Zp h g x vx)(hi:AR w w0.heap.size Zp h g ix E){ok:Bool}
  (e:(ahP k v x ix ok).eval next h L=some (r,h',L')):h'=h∧∃u,(Instr.lookup t vx E ok).run P w= .ok u w∧AR w w0.heap.size Zp h g r u:=by
 obtain⟨h1,h2,dv,Tv,hz,hty⟩:=Jn hX hm;have W:=ah3 (P:=P) (w:=w) hX h1;have hu:=T.map hd;unfold ahP at e
 split at e
 ·rename_i o gg cs
  split at e
  ·rename_i y U hy;have e:=cA e
   split at e
   ·rename_i k' v' l ho
    split at e
    ·rename_i N hc;obtain⟨V,hv',Y⟩:=OT hc;subst V hv';have Y:N=l:=Y;subst Y;obtain⟨hal,_,hp⟩:=hx.c;obtain⟨b,hb,rfl⟩:=hp (by rw[ho];simp);have K:=R.ob o;rw[ho]at K;obtain⟨g1,g2,Z,b',es,Q,I,S,B⟩:=K;rw[hb]at I;cases I;have p:FV k' y E:=aqE g1 (by simpa using U) hi hy;obtain⟨c1,_,c3⟩:=W.2 y E p;obtain⟨D,c4,F⟩:=c3 es.toList B.keys;obtain⟨z,hz1,hz2⟩:=asV (w:=w) Tv hz hty g2;have n:∀(i:Value) (O:Bool),((D.map (fun u=>(u.2,true))).getD (z,false)=(i,O))→(Instr.lookup t (.map (some b)) E ok).run P w= .ok (if ok then .tuple #[i,.bool O]else i) w:=by
      intro i O a;simp only[Instr.lookup,Sem.run_bind,run_underlying hu,Result.andThen_ok,MapKept.run_getObj_map S,Sem.run_pure,c1,c4]
      cases D with
      |none=>simp at a;obtain⟨rfl,rfl⟩:=a;simp[hz1]
      |some q=>obtain⟨q1,q2⟩:=q;simp at a;obtain⟨rfl,rfl⟩:=a;simp
     have H:∀(i:Value) (q:Option v'.den),IY k'.Jb N y=q→((D.map (fun u=>(u.2,true))).getD (z,false)=(i,q.isSome))→FV v' (q.getD v'.zero) i→
       h'=h∧∃u,(Instr.lookup t (.map (some b)) E ok).run P w= .ok u w∧AR w w0.heap.size Zp h g r u:=by
      intro i q hq J a;rw[hq]at e;have M:=axc (w:=w) (base:=w0.heap.size) (Zp:=Zp) (h:=h) (g:=g) g2 a
      cases ok with
      |true=>
       cases gH e;refine⟨rfl,_,n _ _ J,?_⟩;exact⟨[i,.bool q.isSome],rfl,[i],[.bool q.isSome],rfl,⟨i,rfl,M⟩,[.bool q.isSome],[],rfl,⟨_,rfl,⟨_,[],rfl,rfl,rfl⟩⟩,rfl⟩
      |false=>
       cases gH e;exact⟨rfl,_,n _ _ J,M⟩
     rcases F with⟨rfl,F⟩|⟨j,en,rfl,F,c6⟩
     ·exact H z none (agz g1 N (abF B p F)) rfl hz2
     ·obtain⟨yy,c7,c8⟩:=abG g1 B p F c6;exact H en.val (some yy) (agA g1 N j Z c7) rfl c8
    ·exact(aj e).elim
   ·exact(aj e).elim
  ·exact(aj e).elim
 ·exact(aj e).elim
theorem amM(hX:Yk P X.tt)(R:HR w0 Z0 Zp h g w){t tk tv:TypeId}{d:TD}(T:eH P t d)(hd:d.desc= .map tk tv){k v:Ty}(hm:Jd X tk tv=some (k,v)){x ix a:A}{vx N U:Value}(hx:AR w w0.heap.size Zp h g x vx)(hi:AR w w0.heap.size Zp h g ix N)(ha:AR w w0.heap.size Zp h g a U)
  (e:(ahQ k v x ix a).eval next h L=some (r,h',L')):bY P w0 Z0 Zp h g w new (do Instr.mapUpdate t vx N U;pure .skip) r h':=by
 obtain⟨h1,h2,_⟩:=Jn hX hm;have hkk:=ah3 (P:=P) (w:=w) hX h1;have hu:=T.map hd;unfold ahQ at e
 split at e
 ·rename_i o gg cs gg' ds
  split at e
  ·rename_i y z O hy hz;have e:=cA e
   split at e
   ·rename_i M W l ho
    split at e
    ·rename_i I hc;obtain⟨hk',hv',hl⟩:=OT hc;subst hk' hv';have hl:I=l:=hl;subst hl;simp only[ak,beq_iff_eq]at O;have e:=dS e
     cases gH e;obtain⟨hal,_,B⟩:=hx.c;obtain⟨b,hb,rfl⟩:=B (by rw[ho];simp);have hob:=R.ob o;rw[ho]at hob;obtain⟨g1,g2,S,b',es,D,hb',J,u⟩:=hob;rw[hb]at hb';cases hb';have K:FV M y N:=aqE g1 O.1 hi hy;have hfz:FV W z U:=aqE g2 O.2 ha hz;obtain⟨c1,c2,c3⟩:=hkk.2 y N K;obtain⟨res,c4,V⟩:=c3 es.toList u.keys;have hbb:=R.home o b (by rw[ho];simp) hb;have Z:∀(E:Array MapEntry) (n:Nat),(Instr.mapUpdate t (.map (some b)) N U).run P w= .ok () { w with heap:=w.heap.setIfInBounds b (.map E n) }→aoY M W (OJ M.Jb I y z) E.toList→((OJ M.Jb I y z).map (·.1)).Nodup→
       bY P w0 Z0 Zp h g w new (do Instr.mapUpdate t (.map (some b)) N U;pure .skip) BH ((o,.map M W (OJ M.Jb I y z))::h):=by
      intro E n hrun azB azC;have hs:=heap_set (o':=Obj.map E n) J;obtain⟨W1,W2⟩:=R.write (x:=.map M W (OJ M.Jb I y z)) (w':={ w with heap:=w.heap.setIfInBounds b (.map E n) }) hb (by rw[ho];rfl) (by rw[ho];exact .inr (.inr (.inr (.inr (.inl ⟨_,_,_,_,rfl,rfl⟩))))) rfl
       (fun c hc=>hs.2 c hc) (by simp) (abx R.ext rfl rfl rfl (by simp) (fun i hi _=>hs.2 i (by omega)))
       (fun _=>⟨g1,g2,azC,b,E,n,hb,hs.1,azB⟩)
      exact⟨.skip,undef,_,g,by simp[hrun],.inr ⟨rfl,rfl⟩,W1,W2,AR.skip,fun _ hh=> .inl hh⟩
     rcases V with⟨rfl,V⟩|⟨j,en,rfl,V,c6⟩
     ·have hno:=abF u K V;have hpn:=L7 (v:=W) (z:=z) g1 I hno;refine Z (es.push { key:=N,val:=U,born:=D }) (D+1) ?_ ?_ ?_
      ·simp only[Instr.mapUpdate,Sem.run_bind,run_underlying hu,Result.andThen_ok,MapKept.run_getObj_map J,c1,c4];exact MapKept.run_setObj_map _ J
      ·rw[hpn,Array.toList_push];refine⟨by simp[u.1],fun i p en B F=> ?_⟩
       by_cases hi:i<I.length
       ·rw[aP hi]at B;rw[aP (by rw[←u.1];exact hi)]at F;exact u.2 i p en B F
       ·rw[bc (by omega)]at B;rw[bc (by rw[←u.1];omega),←u.1]at F;obtain⟨q,hq⟩:∃q,q=i -I.length:=⟨_,rfl⟩;rw[←hq]at B F
        match q,B,F with
        |0,B,F=>
         simp at B F;subst B F;exact⟨K,hfz⟩
        |q+1,B,_=>simp at B
      ·rw[hpn,eu,List.nodup_append];refine⟨S,by simp,fun q hq q' hq'=> ?_⟩;simp at hq';subst hq';obtain⟨p,B,rfl⟩:=List.mem_map.1 hq;exact hno p B
     ·obtain⟨yy,c7,c8⟩:=abG g1 u K V c6;have hps:=agB (v:=W) (z:=z) g1 I j S c7;have Y:es[j]? =some en:=by simpa using V
      refine Z (es.modify j fun e=>{ e with key:=N,val:=U }) D ?_ ?_ ?_
      ·simp only[Instr.mapUpdate,Sem.run_bind,run_underlying hu,Result.andThen_ok,MapKept.run_getObj_map J,c1,c4,Y,Option.map_some,Option.getD_some,c6,c2];exact MapKept.run_setObj_map _ J
      ·rw[hps];refine⟨by simp[u.1],fun i p en' B F=> ?_⟩;have Q:j<I.length:=(List.getElem?_eq_some_iff.1 c7).1
       by_cases H:j=i
       ·subst H;rw[fl Q]at B;simp only[cC,Array.getElem?_modify,if_true,Y,Option.map_some,Option.some.injEq]at F
        cases B;subst F;exact⟨K,hfz⟩
       ·rw[dq H]at B;simp only[cC,Array.getElem?_modify,if_neg H]at F;exact u.2 i p en' B (by simpa using F)
      ·rw[hps,List.map_set];have:(I.map (·.1)).set j y=I.map (·.1):=by
        apply List.ext_getElem?;intro i
        by_cases H:j=i
        ·subst H;have Q:j<(I.map (·.1)).length:=by simpa using(List.getElem?_eq_some_iff.1 c7).1
         rw[fl Q,List.getElem?_map,c7];rfl
        ·rw[dq H]
       rw[this];exact S
    ·exact(aj e).elim
   ·exact(aj e).elim
  ·exact(aj e).elim
 ·exact(aj e).elim
end
section
variable {P:Program} {w0:W0} {w w':World} {Z0 Zp:cD} {h h':bm} {g:G} {new next base:Nat} {r:A} {L L':Log} {X:Cx}
def ah4:Op→Bool
 |.call c=>match c.callee with
  |.value _=>true
  |_=>false
 |_=>false
theorem Ur{t c:TypeId}(b:P.underlying t=some (.pointer c))(a:Option Addr)(d:Nat):(Op.equalIn (d+1) t (.pointer a) (.pointer none)).run P w= .ok a.isNone w:=by
 unfold Op.equalIn;rw[Sem.run_bind,run_underlying b]
 cases a<;>rfl
theorem abH{op:BinOp}{t:TypeId}{d:TD}(T:eH P t d){x y:Operand}{nil sl:Bool}{D:A}{i k:Value}(hx:match sl with |false=>∃a,i= .pointer a∧a.isNone=nil |true=>∃a n c,i= .slice a n c∧a.isNone=nil)
  (B:AR w base Zp h g D k) (e:(Ug sl op d nil D).eval next h L=some (r,h',L')):
  h'=h∧∃c v,r= .v false [c]∧(do eqGuard op t x y i k;binOp op t i k:Sem Value).run P w= .ok v w∧CR w base Zp h g c v:=by
 unfold Ug at e;have go:∀u:Value,(eqGuard .eql t x y i u).run P w= .ok () w→(eqGuard .neq t x y i u).run P w= .ok () w→(Op.equal t i u).run P w= .ok nil w→k=u→(binOp .eql t i u).run P w= .ok (.bool nil) w→(binOp .neq t i u).run P w= .ok (.bool (!nil)) w→(Ug.go op nil).eval next h L=some (r,h',L')→
   h'=h∧∃c v,r= .v false [c]∧(do eqGuard op t x y i k;binOp op t i k:Sem Value).run P w= .ok v w∧CR w base Zp h g c v:=by
  intro u p o J E F H e;subst E;unfold Ug.go at e
  split at e
  ·obtain⟨rfl,rfl,_⟩:=kB e;exact⟨rfl,_,_,rfl,by simp only[Sem.run_bind,p,Result.andThen_ok];exact F,rfl⟩
  ·obtain⟨rfl,rfl,_⟩:=kB e;exact⟨rfl,_,_,rfl,by simp only[Sem.run_bind,o,Result.andThen_ok];exact H,rfl⟩
  ·exact(aj e).elim
 split at e
 ·rename_i z l;obtain⟨a,n,c,rfl,q⟩:=hx;have b:=B.c;have b:k= .slice none 0 0:=b;have j:=Go.run_equal_slice_nil w t z a n c (T.slice l);rw[q]at j;exact go _ (by simp[eqGuard]) (by simp[eqGuard]) j b (by simp[binOp,j]) (by simp[binOp,j]) e
 ·rename_i z l;obtain⟨a,rfl,q⟩:=hx;have b:=B.c;have b:k= .pointer none:=b;have I:P.underlying t=some (.pointer z):=by
   obtain⟨y,p,o⟩:=T.under;rw[l]at o
   cases y<;>simp[BI]at o;rw[p,o]
  have j:(Op.equal t (.pointer a) (.pointer none)).run P w= .ok nil w:=by
   rw[←q];exact Ur I a 9999
  exact go _ (by simp[eqGuard]) (by simp[eqGuard]) j b (by simp[binOp,j]) (by simp[binOp,j]) e
 ·exact(aj e).elim
theorem asX(E:Yk P X.tt)(hV:ae1 P X.Ue)(R:HR w0 Z0 Zp h g w)(hn:¬ g.al new){env:Env}{a:Act}(B:∀t,AR w w0.heap.size Zp h g (look aJ t env) (a.tmps.getD t undef)){o:Oper}(Q:ah4 o.op=false)
  (e:(aop X new (Di env) o.op).eval next h L=some (r,h',L')):bY P w0 Z0 Zp h g w new (execOp a.eval o) r h':=by
 unfold execOp
 cases hop:o.op<;>rw[hop]at e Q<;>simp only[aop]at e
 case move x=>rw[aoh]at e;cases gH e;exact bY.pure R (v:=a.eval x) rfl (dT B x)
 case assign x=>rw[aoh]at e;cases gH e;exact bY.pure R (v:=a.eval x) rfl (dT B x)
 case pick c x y=>
  have U:=dT B c
  split at e
  ·rename_i t ht;rw[ht]at U;have U:=U.c;simp only[CR]at U;rw[aoh,aoh]at e
   cases t<;>simp only[HM.eval]at e<;>cases e
   ·exact bY.pure R (v:=a.eval y) (by simp[U,asBool]) (dT B y)
   ·exact bY.pure R (v:=a.eval x) (by simp[U,asBool]) (dT B x)
  ·exact(aj e).elim
 case alloc t=>
  obtain⟨d,N,T,e⟩:=cw E e
  split at e
  ·rename_i c V U O;have e:=cA e
   split at e
   ·rename_i K H ho
    split at e
    ·rename_i H' hH;obtain⟨hK,rfl⟩:=jP hH;subst hK;obtain⟨rfl,rfl,_⟩:=cd (dS e);exact amI R (hV.get O) ho
    ·exact(aj e).elim
   ·exact(aj e).elim
  ·exact(aj e).elim
  ·split at e
   ·rename_i hz;obtain⟨τ,hτ,e⟩:=wF e;obtain⟨rfl,rfl,_⟩:=cd (dS e);exact ao4 R hn T hz hτ
   ·exact(aj e).elim
 case box t x=>
  obtain⟨d,N,T,e⟩:=cw E e;have J:=dT B x
  split at e
  ·rename_i gg cs D
   split at e
   ·rename_i U;simp only[ak]at U;rw[D]at J
    split at e
    ·rename_i c V hcl O;have hvc:=mP U.1.2 J;obtain⟨cs',F,g1,L1,e,R1,Le1,hg1,azD⟩:=eX cs _ h g L _ _ R hvc e;have e:=cA e
     split at e
     ·rename_i K H ho
      split at e
      ·rename_i H' z hH hz _;obtain⟨hK,rfl⟩:=jP hH;subst hK;obtain⟨rfl,rfl,_⟩:=cd (dS e);exact bY.behind Le1 (fun o ho=>hg1.al▸ho) (aqB R1 (hV.get O) ho azD hz)
      ·exact(aj e).elim
     ·exact(aj e).elim
    ·exact(aj e).elim
    ·obtain⟨rfl,rfl,_⟩:=cd (dS e);exact asS R hn U.1.2 J
   ·exact(aj e).elim
  ·exact(aj e).elim
 case build t parts=>
  obtain⟨d,N,T,e⟩:=cw E e
  split at e
  ·rename_i fs p hz
   split at e
   ·rename_i V O
    split at e
    ·rename_i pl hpl
     split at e
     ·rename_i cs hcs
      cases gH e;exact ae4 E R T p (hV.get O) hpl B hcs
     ·exact(aj e).elim
    ·exact(aj e).elim
   ·exact(aj e).elim
  ·rename_i fs p hz;obtain⟨τ,hτ,e⟩:=wF e
   split at e
   ·rename_i pl hpl
    split at e
    ·rename_i cs hcs
     cases gH e;exact ah0 E R T p hz hτ hpl B hcs
    ·exact(aj e).elim
   ·exact(aj e).elim
  ·rename_i n te p hz;obtain⟨τ,hτ,e⟩:=wF e;obtain⟨de,hde,Te,e⟩:=cw E e
   split at e
   ·rename_i cs hcs
    cases gH e;exact aj6 R T Te p hz hτ B hcs
   ·exact(aj e).elim
  ·exact(aj e).elim
 case buildSlice t len parts=>
  obtain⟨d,N,T,e1⟩:=cw E e;clear e
  split at e1
  ·rename_i te p;obtain⟨de,hde,Te,e2⟩:=cw E e1;clear e1
   split at e2
   ·rename_i hak hps;have hps:parts= #[]:=Array.toList_eq_nil_iff.1 hps;subst hps
    split at e2
    ·rename_i V O;have e3:=cA e2
     split at e3
     ·rename_i K H ho
      split at e3
      ·rename_i H' hH;obtain⟨hK,rfl⟩:=jP hH;subst hK;obtain⟨rfl,rfl,_⟩:=cd (dS e3);exact amJ R T Te p (hV.get O) ho (by simp)
      ·exact(aj e3).elim
     ·exact(aj e3).elim
    ·exact(aj e2).elim
   ·obtain⟨τ,hτ,e3⟩:=wF e2
    split at e3
    ·rename_i U;exact abA R hn T Te p hτ B U e3
    ·exact(aj e3).elim
  ·exact(aj e1).elim
 case load t x=>
  obtain⟨d,N,T,e⟩:=cw E e;obtain⟨rfl,u,F,I⟩:=Un R T (dT B x) e;exact bY.val R F I
 case store t x y=>
  obtain⟨d,N,T,e⟩:=cw E e;exact ao5 R T (dT B x) (dT B y) e
 case nilCheck x=>
  obtain⟨rfl,b,off,hv,har⟩:=abw (dT B x) e;simp only[Nat.add_zero]at har;refine bY.pure R (v:=.pointer (some ⟨b,off,none⟩)) ?_ har;simp[hv]
 case binOp op t x y ty=>
  have J:=dT B x;have hy:=dT B y
  split at e
  ·rename_i b D;obtain⟨d,N,T,e⟩:=cw E e
   split at e
   ·rename_i p;have hu:P.underlying t=some .bool:=by
     obtain⟨y,F,I⟩:=T.under;rw[p]at I
     cases y<;>simp[BI]at I;exact F
    rw[←D]at e;obtain⟨rfl,c,v,rfl,F,I⟩:=aj0 (P:=P) (t:=t) (x:=x) (y:=y) (fun _ _ _ _=>hu) J hy e;exact bY.val R F (AR.qF I)
   ·exact(aj e).elim
  ·rename_i cs D;obtain⟨d,N,T,e⟩:=cw E e;rw[D]at J;obtain⟨rfl,c,v,rfl,F,I⟩:=asU (P:=P) (x:=x) (y:=y) T J hy e;exact bY.val R F (AR.qF I)
  ·rename_i ty1 l1 tk D;obtain⟨d,N,T,e⟩:=cw E e;rw[D]at J;obtain⟨rfl,c,v,rfl,F,I⟩:=aqD (P:=P) (x:=x) (y:=y) T J hy e;exact bY.val R F (AR.qF I)
  ·rename_i c1 o1 z D;obtain⟨d,N,T,e⟩:=cw E e;rw[D]at J;have hp:∃a':Option Addr,a.eval x= .pointer a'∧a'.isNone=z.isNone:=by
    cases z with
    |none=>exact⟨none,J.c,rfl⟩
    |some id=>obtain⟨q,_,_,hv⟩:=J.c;exact⟨_,hv,rfl⟩
   obtain⟨rfl,c,v,rfl,F,I⟩:=abH (P:=P) (x:=x) (y:=y) T hp hy e;exact bY.val R F (AR.qF I)
  ·rename_i c1 z D;obtain⟨d,N,T,e⟩:=cw E e;rw[D]at J;have hp:∃(a':Option Addr) (n c:Nat),a.eval x= .slice a' n c∧a'.isNone=z.isNone:=by
    cases z with
    |none=>exact⟨none,0,0,J.c,rfl⟩
    |some q=>obtain⟨id,a0,n0⟩:=q;obtain⟨_,_,_,_,_,_,_,_,hv⟩:=J.c;exact⟨_,_,_,hv,rfl⟩
   obtain⟨rfl,c,v,rfl,F,I⟩:=abH (P:=P) (x:=x) (y:=y) T hp hy e;exact bY.val R F (AR.qF I)
  ·rename_i hnb _ _ _ _;obtain⟨rfl,c,v,rfl,F,I⟩:=aj0 (P:=P) (t:=t) (x:=x) (y:=y) (fun b _ hb _=>absurd hb (hnb b)) J hy e;exact bY.val R F (AR.qF I)
 case unOp op t x=>
  obtain⟨rfl,c,v,rfl,F,I⟩:=asN (P:=P) (dT B x) e;exact bY.val R F (AR.qF I)
 case convert src dst x=>
  obtain⟨d1,hd1,T1,e⟩:=cw E e;obtain⟨d,N,T,e⟩:=cw E e;have J:=dT B x
  split at e
  ·rename_i k k' n p D;rw[D]at J;have hxv:=J.c;simp only[CR]at hxv;obtain⟨rfl,rfl,_⟩:=fW e;obtain⟨y,hy,_⟩:=T1.under;refine bY.val R (v:=.int k (k.wrap n)) ?_ (AR.qF rfl);simp[convert,run_underlying hy,run_underlying (T.int p),hxv,Conv.intToInt]
  ·rename_i c0 p D;rw[D]at J
   split at e
   ·rename_i te hs;obtain⟨de,hde,Te,e⟩:=cw E e
    split at e
    ·rename_i hu8;obtain⟨c',L1,e,hc'⟩:=MV R J.c e
     split at e
     ·rename_i l tk;obtain⟨rfl,rfl,_⟩:=cd e;exact bY.val R (apa (T1.slice hs) (Te.int hu8) (T.string p) hc'.1) (AR.qF rfl)
     ·obtain⟨rfl,rfl,_⟩:=cd e;simp only[CR]at hc';have hr:=run_convert_bytes_nil (P:=P) w src te (T1.slice hs) (Te.int hu8) 0 0 dst (T.string p);rw[←hc']at hr;exact bY.val R hr (AR.qF rfl)
     ·exact(aj e).elim
    ·exact(aj e).elim
   ·exact(aj e).elim
  ·exact(aj e).elim
 case makeFunc fn first captured=>
  cases fn<;>simp only at e<;>try (exact(aj e).elim)
  rename_i f
  split at e
  ·rename_i ids h0 azE;obtain⟨rfl,rfl,_⟩:=cd e;have W:first= #[]:=Array.eq_empty_of_size_eq_zero h0
   have:=abD R B captured.toList ids (by simpa using azE);refine bY.pure R (v:=.func (.func f) #[] (captured.map a.eval)) (by simp[Instr.makeFunc,W]) (AR.qF ⟨_,rfl,by simpa using this⟩)
  ·exact(aj e).elim
 case makeSlice t l c=>
  obtain⟨d,N,T,e⟩:=cw E e
  split at e
  ·rename_i te p;obtain⟨de,hde,Te,e⟩:=cw E e
   split at e
   ·rename_i cl V hcl O
    split at e
    ·rename_i k n _ M hlr _;have Z:=dT B l;have e:=cA e
     split at e
     ·rename_i K H ho
      split at e
      ·rename_i H' hH;obtain⟨hK,rfl⟩:=jP hH;subst hK;obtain⟨n',hn',e⟩:=bG e;obtain⟨rfl,rfl,_⟩:=cd (dS e);have hlc:l=c:=by
        unfold ahK at M
        split at M
        ·rw[aA M]
        ·cases M
       subst hlc;rw[hlr]at Z;have Z:=Z.c;simp only[CR]at Z;refine(?_:bY P w0 Z0 Zp _ g w new (Instr.makeSlice t (a.eval l) (a.eval l) >>= fun x=>Pure.pure (Next.value x)) _ _);rw[Z];exact ao8 R T Te p (hV.get O) ho hn'
      ·exact(aj e).elim
     ·exact(aj e).elim
    ·exact(aj e).elim
   ·exact(aj e).elim
   ·split at e
    ·rename_i U;simp only[ak]at U;have Y:0<de.size:=by have:=U.2;simpa[eV]using this
     obtain⟨τ,hτ,e⟩:=wF e;have Z:=dT B l;have S:=dT B c
     split at e
     ·rename_i k n M hlr;obtain⟨n',hn',e⟩:=bG e;obtain⟨rfl,rfl,_⟩:=cd (dS e);have hlc:l=c:=by
       unfold ahK at M
       split at M
       ·rw[aA M]
       ·cases M
      subst hlc;rw[hlr]at Z;have Z:=Z.c;simp only[CR]at Z;refine(?_:bY P w0 Z0 Zp _ g w new (Instr.makeSlice t (a.eval l) (a.eval l) >>= fun x=>Pure.pure (Next.value x)) _ _);rw[Z];exact aqs R hn T Te p U.1 hτ Y hn'
     ·rename_i k k' n M hlr hcr;obtain⟨n',hn',e⟩:=bG e;obtain⟨rfl,rfl,_⟩:=cd (dS e);rw[hlr]at Z;rw[hcr]at S;have Z:=Z.c;have S:=S.c;simp only[CR]at Z S;refine(?_:bY P w0 Z0 Zp _ g w new (Instr.makeSlice t (a.eval l) (a.eval c) >>= fun x=>Pure.pure (Next.value x)) _ _);rw[Z,S];exact ao7 R hn T Te p U.1 hτ hn'
     ·exact(aj e).elim
    ·exact(aj e).elim
  ·exact(aj e).elim
 case slice t x lo hi mx=>
  obtain⟨d,N,T,e⟩:=cw E e;obtain⟨u,g',F,I,h3,h4,h5⟩:=amE E hV R T (dT B x) (OQ B lo) (OQ B hi) (OQ B mx) e;exact⟨_,u,w,g',by simp[F],.inl rfl,I,h3,h5,fun o ho=> .inl (h4.al▸ho)⟩
 case fieldAddr s x j=>
  obtain⟨d,N,T,e⟩:=cw E e
  split at e
  ·rename_i f W;obtain⟨df,hdf,Tf,e⟩:=cw E e
   split at e
   ·rename_i Y;have Y:0<df.size:=by simpa[eV]using Y
    obtain⟨rfl,b,off,hv,har⟩:=abw (dT B x) e;unfold Qb at W
    split at W
    ·rename_i fs p;obtain⟨ff,hu,hfs⟩:=T.struct p;rw[←hfs,List.getElem?_map]at W
     cases hfj:ff.toList[j]? with
     |none=>simp[hfj]at W
     |some q=>
      simp only[hfj,Option.map_some,Option.some.injEq]at W;subst W;have hq:ff[j]? =some q:=by simpa using hfj
      refine bY.val R (v:=.pointer (some ⟨b,off+q.offset,none⟩)) ?_ har;simp[Instr.fieldAt,run_underlying hu,hq,hv,Instr.sureAddr,abv Tf Y]
    ·cases W
   ·exact(aj e).elim
  ·exact(aj e).elim
 case field s x j=>
  obtain⟨d,N,T,e⟩:=cw E e
  split at e
  ·rename_i f W;obtain⟨df,hdf,Tf,e⟩:=cw E e;have J:=dT B x
   split at e
   ·rename_i cs D;rw[D]at J;obtain⟨vs,hv,hcs⟩:=J.agg;obtain⟨rfl,u,F,I⟩:=aqn (P:=P) Tf hcs e;unfold Qb at W
    split at W
    ·rename_i fs p;obtain⟨ff,hu,hfs⟩:=T.struct p;rw[←hfs,List.getElem?_map]at W
     cases hfj:ff.toList[j]? with
     |none=>simp[hfj]at W
     |some q=>
      simp only[hfj,Option.map_some,Option.some.injEq]at W;subst W;have hq:ff[j]? =some q:=by simpa using hfj
      refine bY.val R (v:=u) ?_ I;simp[Instr.field,run_underlying hu,hq,hv,asAgg,F]
    ·cases W
   ·exact(aj e).elim
  ·exact(aj e).elim
 case indexAddr t x ix=>
  obtain⟨d,N,T,e⟩:=cw E e;obtain⟨rfl,u,F,I⟩:=ae2 E hV R T (dT B x) (dT B ix) e;exact bY.val R F I
 case makeMap t rs=>
  cases rs with
  |some _=>exact(aj e).elim
  |none=>
   obtain⟨d,N,T,e⟩:=cw E e
   split at e
   ·split at e
    ·rename_i hm;obtain⟨rfl,rfl,_⟩:=cd (dS e);exact akg E R hn hm
    ·exact(aj e).elim
   ·exact(aj e).elim
 case lookup t x ix ok=>
  obtain⟨d,N,T,e⟩:=cw E e
  split at e
  ·rename_i p
   split at e
   ·rename_i hm;obtain⟨rfl,u,F,I⟩:=amL E R T p hm (dT B x) (dT B ix) e;exact bY.val R F I
   ·exact(aj e).elim
  ·exact(aj e).elim
 case mapUpdate t m ix x=>
  obtain⟨d,N,T,e⟩:=cw E e
  split at e
  ·rename_i p
   split at e
   ·rename_i hm;exact amM E R T p hm (dT B m) (dT B ix) (dT B x) e
   ·exact(aj e).elim
  ·exact(aj e).elim
 case index t x ix=>
  obtain⟨d,N,T,e⟩:=cw E e;have J:=dT B x;have hi:=dT B ix;unfold aqg at e
  split at e
  ·rename_i s k i p D hir;rw[D]at J;rw[hir]at hi;have hxv:=J.c;have hiv:=hi.c;simp only[CR]at hxv hiv;obtain⟨n,hn2,e⟩:=bG e;obtain⟨rfl,rfl,_⟩:=fW e;obtain⟨h0,b,hb,rfl⟩:=ao9 hn2;refine bY.val R (v:=.int .u8 b.toNat) ?_ (AR.qF rfl);have hlt:i.toNat<s.length:=(List.getElem?_eq_some_iff.1 hb).1;have hb2:(⟨s.toArray⟩:ByteArray)[i.toNat]? =some b:=by
    rw[getElem?_pos (⟨s.toArray⟩:ByteArray) i.toNat (by rw[Jk];exact hlt)];have:=(List.getElem?_eq_some_iff.1 hb).2;rw[←this];rfl
   simp[Instr.index,hxv,hiv,asIntOf,run_underlying (T.string p),h0,hb2]
  ·exact(aj e).elim
 case extract x j=>
  obtain⟨rfl,u,F,I⟩:=aka (P:=P) (dT B x) e;exact bY.val R F I
 case call c=>
  simp only[ah4]at Q
  split at e
  ·rename_i b S;have:=akc (cs:=(c.args.map fun |.const _=>true |_=>false)) E hV R hn B (ty:=o.type) e;obtain⟨n,v,w',g',F,I⟩:=this;exact⟨n,v,w',g',by simp only[resolve,S,Sem.run_bind,Sem.run_pure,Result.andThen_ok,invoke];exact F,I⟩
  ·rename_i f S;rw[S]at Q;cases Q
  ·exact(aj e).elim
 all_goals exact(aj e).elim
end
def xQ(w:World)(Z Zp:cD)(τ:Ty)(x:τ.den)(v:Value):Prop:=
 match τ.isAgg with
 |true=>∃a:List Value,v= .agg a.toArray∧PR w Z Zp τ x a
 |false=>PR w Z Zp τ x [v]
def xR(w:World)(Z Zp:cD):(ps:List Ty)→(jN ps).den→List Value→Prop
 |[],_,b=>b=[]
 |[τ],x,b=>∃v,b=[v]∧xQ w Z Zp τ x v
 |τ::σ::r,x,b=>∃v a,b=v::a∧xQ w Z Zp τ x.1 v∧xR w Z Zp (σ::r) x.2 a
def OU(w:World)(Z Zp:cD)(rs:List Ty)(x:(jN rs).den)(v:Value):Prop:=
 match rs,x with
 |[τ],x=>xQ w Z Zp τ x v
 |rs,x=>∃a:List Value,v= .tuple a.toArray∧xR w Z Zp rs x a
def jC:cD:=fun _ _=>False
def Ym(Z:cD)(w w':World):cD:=fun b i=>Z b i∨(w.heap.size≤b∧b<w'.heap.size)
structure aq (P:Program) (f:FuncId) (E:Entry):Prop where
 fn:∃fn,P.funcs[f]? =some fn∧(fn.name== "runtime.NumGoroutine")=false∧fn.body.isNone=false
 nr:E.rs.all Ty.cE=true
 calls:∀(w:World) (Z Zp:cD) (x:(jN E.ps).den) (r:(jN E.rs).den) (args:List Value),(∀b i,Z b i→b<w.heap.size)→(∀b i,Zp b i→b<w.heap.size)→xR w Z Zp E.ps x args→E.F x=some r→
  Calls P f args.toArray w fun e w'=>∃v,e= .returned v∧w.Extends w'∧OU w' (Ym Z w w') jC E.rs r v
def aqF(Z:cD)(w w':World)(a:Option Nat)(lo:Nat):cD:=fun b i=>Z b i∨(w.heap.size≤b∧b<w'.heap.size∧(a=some b→i<lo))
def aqG(w w':World)(size len:Nat)(d:Option Nat)(v:Value):Prop:=
 (d=none∧v= .slice none 0 0∧len=0)∨
 (∃b a c e,d=some b∧v= .slice (some ⟨b,0,none⟩) len a∧w'.heap[b]? =some (.cells c e (0,0))∧
  len≤a∧a≤maxLen∧c.size=a*size∧w.heap.size≤b)
structure as6 (P:Program) (f:FuncId) (E:Dh):Prop where
 fn:∃fn,P.funcs[f]? =some fn∧(fn.name== "runtime.NumGoroutine")=false∧fn.body.isNone=false
 nr:E.e.cE=true
 calls:∀(w:World) (Z Zp:cD) (x:(jN E.ps).den) (l:List E.e.den) (args:List Value),(∀b i,Z b i→b<w.heap.size)→(∀b i,Zp b i→b<w.heap.size)→xR w Z Zp E.ps x args→E.F x=some l→
  Calls P f args.toArray w fun e w'=>∃v ob,e= .returned v∧w.Extends w'∧PR w' (aqF Z w w' ob (l.length*E.e.size)) jC (.sl E.e) l [v]∧aqG w w' E.e.size l.length ob v
section
variable {P:Program} {w0:W0} {w w':World} {Z0 Zp:cD} {h h':bm} {g:G} {new next base:Nat} {r:A} {L L':Log} {X:Cx}
theorem xQ.mono{Z j y i:cD}(D:dG w w' Z j)(E:dG w w' y i){τ:Ty}{x:τ.den}{v:Value}(hh:xQ w Z y τ x v):xQ w' j i τ x v:=by
 unfold xQ at hh ⊢
 cases H:τ.isAgg<;>simp only[H]at hh ⊢
 case true=>obtain⟨us,e,I⟩:=hh;exact⟨us,e,PR.mono D E _ _ _ I⟩
 case false=>exact PR.mono D E _ _ _ hh
theorem xQ.flat{Z y D i:cD}{τ:Ty}(j:τ.flat=true){x:τ.den}{v:Value}(hh:xQ w Z D τ x v):xQ w' y i τ x v:=by
 unfold xQ at hh ⊢
 cases E:τ.isAgg<;>simp only[E]at hh ⊢
 case true=>obtain⟨us,e,H⟩:=hh;exact⟨us,e,PR.flat _ _ _ j H⟩
 case false=>exact PR.flat _ _ _ j hh
theorem xQ.cE{Z y i:cD}{τ:Ty}(j:τ.cE=true){x:τ.den}{v:Value}(hh:xQ w Z y τ x v):xQ w Z i τ x v:=by
 unfold xQ at hh ⊢
 cases D:τ.isAgg<;>simp only[D]at hh ⊢
 case true=>obtain⟨us,e,E⟩:=hh;exact⟨us,e,PR.cE _ _ _ j E⟩
 case false=>exact PR.cE _ _ _ j hh
theorem xQ.toVR{τ:Ty}{x:τ.den}{v:Value}(hh:xQ w g.Z Zp τ x v):VR w base Zp h g τ.isAgg (τ.cells x) v:=by
 unfold xQ at hh;unfold VR
 cases i:τ.isAgg<;>simp only[i]at hh ⊢
 case true=>obtain⟨us,e,j⟩:=hh;exact⟨us,e,dM.ar2 _ _ _ j⟩
 case false=>exact dM.ar2 _ _ _ hh
theorem xR.map{w1 K:World}{I J E H:cD}{p:Ty→Bool}(y:∀τ (x:τ.den) v,p τ=true→xQ w1 I E τ x v→xQ K J H τ x v):∀(ps:List Ty) (x:(jN ps).den) (vs:List Value),ps.all p=true→xR w1 I E ps x vs→xR K J H ps x vs
 |[],_,_,_,hh=>hh
 |[τ],x,_,j,⟨v,e,D⟩=>⟨v,e,y τ x v (by simpa using j) D⟩
 |τ::σ::r,x,_,j,⟨v,i,e,D,hr⟩=>by
  simp only[List.all_cons,ak]at j;exact⟨v,i,e,y τ _ v j.1 D,xR.map y (σ::r) x.2 i (by simpa using j.2) hr⟩
theorem OU.map{w1 J:World}{H I D E:cD}{p:Ty→Bool}(j:∀τ (x:τ.den) v,p τ=true→xQ w1 H D τ x v→xQ J I E τ x v)(rs:List Ty)(x:(jN rs).den)(v:Value)(i:rs.all p=true)(hh:OU w1 H D rs x v):OU J I E rs x v:=by
 match rs,x,i,hh with
 |[τ],x,i,hh=>exact j τ x v (by simpa using i) hh
 |[],x,i,⟨vs,e,y⟩=>exact⟨vs,e,xR.map j _ _ _ i y⟩
 |τ::σ::r,x,i,⟨vs,e,y⟩=>exact⟨vs,e,xR.map j _ _ _ i y⟩
theorem ah5:∀(rs:List Ty) (x:(jN rs).den) (vs:List Value),xR w g.Z Zp rs x vs→dR (fun(p:Bool×List C) c=>∃u,c=[u]∧VR w base Zp h g p.1 p.2 u) (aqa rs x) vs
 |[],_,_,d=>d
 |[τ],x,_,⟨v,e,b⟩=>⟨[v],[],by simp[e],⟨v,rfl,b.toVR⟩,rfl⟩
 |τ::σ::r,x,_,⟨v,a,e,b,i⟩=>⟨[v],a,by simp[e],⟨v,rfl,b.toVR⟩,ah5 (σ::r) x.2 a i⟩
theorem apb(rs:List Ty)(x:(jN rs).den)(v:Value)(hh:OU w g.Z Zp rs x v):AR w base Zp h g (aqb rs x) v:=by
 match rs,x,hh with
 |[τ],x,hh=>exact xQ.toVR hh
 |[],x,⟨b,e,a⟩=>exact⟨b,e,ah5 _ _ _ a⟩
 |τ::σ::r,x,⟨b,e,a⟩=>exact⟨b,e,ah5 _ _ _ a⟩
def All(w:World):cD:=fun b _=>b<w.heap.size
theorem L8(R:HR w0 Z0 Zp h g w):dG w w g.Z (All w):=fun b i a=>⟨R.Mw b i a,rfl⟩
theorem sk(R:HR w0 Z0 Zp h g w):dG w w Zp (All w):=fun b i a=>⟨ca (R.zp b i a).1 R.im,rfl⟩
def Yn(h:bm)(g:G)(w:World):cD:=fun b _=>b<w.heap.size∧∀c id,¬ GL h g c id b
theorem zo(R:HR w0 Z0 Zp h g w):dG w w Zp (Yn h g w):=fun b i a=>⟨⟨ca (R.zp b i a).1 R.im,fun c id d=>R.gh.zpx c id b i d a⟩,rfl⟩
theorem amN:dG w w (Yn h g w) (All w):=fun _ _ a=>⟨a.1,rfl⟩
theorem aqH{a:bm}{g1:G}(f:Fz h g a g1):dG w w (Yn h g w) (Yn a g1 w):=fun _ _ b=>⟨⟨b.1,fun c id d=>b.2 c id (f.gl c id _ d)⟩,rfl⟩
theorem aqI(R:HR w0 Z0 Zp h g w):dG w w g.Z (Yn h g w):=fun b i a=>⟨⟨R.Mw b i a,fun c id d=>R.gh.kS c id b i d a⟩,rfl⟩
def abI(mark:Bool)(h:bm)(g:G)(w:World):cD:=if mark=true then Yn h g w else All w
theorem abJ(mark:Bool):dG w w (abI mark h g w) (All w):=by
 unfold abI;split
 ·exact amN
 ·exact dG.refl _ _
theorem aoq(R:HR w0 Z0 Zp h g w)(mark:Bool):dG w w Zp (abI mark h g w):=by
 unfold abI;split
 ·exact zo R
 ·exact sk R
theorem asY{a:bm}{g1:G}(f:Fz h g a g1)(mark:Bool):dG w w (abI mark h g w) (abI mark a g1 w):=by
 unfold abI;split
 ·exact aqH f
 ·exact dG.refl _ _
theorem FY(R:HR w0 Z0 Zp h g w):dG w w (Ek h g w).Z (All w):=fun b i a=>⟨by
 rcases a with a |⟨o,e,l,k,j,n⟩|⟨c,id,d,_⟩
 ·exact R.Mw b i a
 ·exact(R.home o b (by rw[k];simp) j).2
 ·exact R.gh.lt c id b d,rfl⟩
theorem VR.list{i:Bool}{cs:List C}{v:Value}(j:VR w base Zp h g i cs v):∃vs,dM w base Zp h g cs vs∧(i=true→v= .agg vs.toArray)∧(i=false→vs=[v]):=by
 cases i with
 |true=>obtain⟨vs,e,y⟩:=j;exact⟨vs,y,fun _=>e,fun h=>by cases h⟩
 |false=>exact⟨[v],j,fun h=>(by cases h),fun _=>rfl⟩
theorem xQ.list{Z y:cD}{τ:Ty}{x:τ.den}{v:Value}{vs:List Value}{i:Bool}(I:i=τ.isAgg)(E:i=true→v= .agg vs.toArray)(H:i=false→vs=[v])(j:PR w Z y τ x vs):xQ w Z y τ x v:=by
 subst I;unfold xQ
 cases D:τ.isAgg with
 |true=>exact⟨vs,E D,j⟩
 |false=>rw[H D]at j;exact j
theorem OV{a b:Ty}{x:a.den}{y:b.den}(c:rZ a b x=some y):∃h:a=b,y=h▸x:=by
 unfold rZ at c
 split at c
 ·rename_i e _;subst e
  cases c;exact⟨rfl,rfl⟩
 ·cases c
theorem aqJ(mark:Bool):∀(t:Ty) (a:List Nat) (d:List Value) (h:bm) (g:G) (L:Log) (k:t.den→HM) (i:A×bm×Log),HR w0 Z0 Zp h g w→
  dR (fun o es=>g.al o∧∃u,es=[u]∧MU u∧(look .dead o h≠.dead→∃b,g.hm o=some b∧u= .pointer (some ⟨b,0,none⟩))) a d→(asI mark t a k).eval next h L=some i→
  ∃x F g1 L1,(k x).eval next F L1=some i∧HR w0 Z0 Zp F g1 w∧Le Zp h g w F g1 w∧Fz h g F g1∧PR w (if mark=true then g1.Z else All w) (abI mark F g1 w) t x d:=by
 intro t
 induction t with
 |unit=>
  intro a d h g L k i R J e
  cases a with
  |nil=>
   simp only[dR]at J;exact⟨(),h,g,L,e,R,Le.refl _ _ _ _,Fz.refl _ _,J⟩
  |cons o a=>exact(aj e).elim
 |pair t1 t2 _ ih=>
  intro a d h g L k i R J e
  cases t1 with
  |ref σ=>
   cases a with
   |nil=>exact(aj e).elim
   |cons o a=>
    obtain⟨es,l,rfl,⟨hal,u,rfl,hpt,W⟩,B⟩:=J;simp only[asI]at e
    split at e
    ·rename_i U;have e:=cA e
     split at e
     ·rename_i cs Y;obtain⟨b,hb,rfl⟩:=W (by rw[Y];simp);have V:=R.ob o;rw[Y]at V;obtain⟨b',cur,e0,N,O,hcs⟩:=V;rw[hb]at N;cases N;have I:=dM.take σ.size _ _ hcs;have H:=(R.home o b (by rw[Y];simp) hb).2;have T:∀c id,¬ GL h g c id b:=fun c id hG=>R.gh.loc c id b o hG (by rw[Y];simp) hb;have n:∀(j:Nat) u,(cur.toList.take σ.size)[j]? =some u→w.cell? ⟨b,0+j,none⟩=some u:=fun j u S=>by
       have:=kU O 0 σ.size j u (by simpa using S);exact this
      cases mark with
      |true=>
       obtain⟨cs',F,g1,L1,e,R1,D,Q,p⟩:=eX _ _ h g _ _ _ R I e
       split at e
       ·rename_i x hx;have K:=ez U p hx;obtain⟨y,M,g2,L2,e,R2,E,q,hy⟩:=ih a l F g1 _ _ i R1 (dR.mono (fun o es ⟨ha,u,e,J,hr⟩=>⟨D.al o ha,u,e,J,fun W=>by
         obtain⟨b,F,M⟩:=hr ((D.ob o ha).alive W);exact⟨b,(D.hm o ha W).trans F,M⟩⟩) _ _ B) e
        refine⟨(x,y),M,g2,L2,e,R2,D.trans E,Q.trans q,[_],l,rfl,⟨b,0,_,rfl,PR.mono E.z (aoq R1 true|>.trans (asY q true)) _ _ _ K,fun j u S=>⟨n j u S,⟨H,fun c id hG=>T c id (Q.gl c id b (q.gl c id b hG))⟩⟩⟩,hy⟩
       ·exact(aj e).elim
      |false=>
       obtain⟨cs',L1,e,p⟩:=se R _ _ _ _ _ I e
       split at e
       ·rename_i x hx;have K:=ez U p hx;obtain⟨y,M,g2,L2,e,R2,E,q,hy⟩:=ih a l h g _ _ i R B e;refine⟨(x,y),M,g2,L2,e,R2,E,q,[_],l,rfl,⟨b,0,_,rfl,PR.mono (FY R) (sk R) _ _ _ K,fun j u S=>⟨n j u S,H⟩⟩,hy⟩
       ·exact(aj e).elim
     ·exact(aj e).elim
    ·exact(aj e).elim
  |_=>exact(aj (by cases a<;>exact e)).elim
 |_=>intro a d h g L k i R J e;exact(aj (by cases a<;>exact e)).elim
theorem abK(mark:Bool)(R:HR w0 Z0 Zp h g w){τ:Ty}{a:A}{v:Value}(J:AR w w0.heap.size Zp h g a v){k:τ.den→HM}{W:A×bm×Log}(e:(aoW mark τ a k).eval next h L=some W):
  ∃x p g1 L1,(k x).eval next p L1=some W∧HR w0 Z0 Zp p g1 w∧Le Zp h g w p g1 w∧Fz h g p g1∧xQ w (if mark=true then g1.Z else All w) (abI mark p g1 w) τ x v:=by
 unfold aoW at e
 split at e
 ·rename_i σ o n k
  split at e
  ·rename_i M;have e:=cA e
   split at e
   ·rename_i cs Y;obtain⟨hal,hp,hd⟩:=J.c;obtain⟨b,hb,rfl⟩:=hd (by rw[Y];simp);have hob:=R.ob o;rw[Y]at hob;obtain⟨b',cur,e0,hb',Q,q⟩:=hob;rw[hb]at hb';cases hb';have F:=dM.take σ.size _ _ (dM.drop n _ _ q);have O:=(R.home o b (by rw[Y];simp) hb).2;have azH:∀c id,¬ GL h g c id b:=fun c id hG=>R.gh.loc c id b o hG (by rw[Y];simp) hb
    cases mark with
    |true=>
     obtain⟨U,p,g1,L1,e,T,I,hg1,z⟩:=eX _ _ h g _ _ _ R F e
     split at e
     ·rename_i x B;have d:=ez M z B;refine⟨x,p,g1,L1,e,T,I,hg1,b,n,_,rfl,PR.mono (dG.refl _ _) (zo T) _ _ _ d,fun j u E=>⟨kU Q n σ.size j u E,⟨O,fun c id hG=>azH c id (hg1.gl c id b hG)⟩⟩⟩
     ·exact(aj e).elim
    |false=>
     obtain⟨U,L1,e,z⟩:=se R _ _ _ _ _ F e
     split at e
     ·rename_i x B;have d:=ez M z B;refine⟨x,h,g,L1,e,R,Le.refl _ _ _ _,Fz.refl _ _,b,n,_,rfl,PR.mono (FY R) (sk R) _ _ _ d,fun j u E=>⟨kU Q n σ.size j u E,O⟩⟩
     ·exact(aj e).elim
   ·exact(aj e).elim
  ·exact(aj e).elim
 ·rename_i σ a' y c k
  split at e
  ·rename_i M
   split at e
   ·rename_i x B;obtain⟨b,n,us,rfl,d,hce⟩:=J.c;have F:=dM.take σ.size _ _ (dM.drop c _ _ (dM.ar2 (base:=w0.heap.size) (h:=h) (g:=g) (Zp:=Zp) a' y us d));have S:=ez M F B;have i:∀j u,((us.drop c).take σ.size)[j]? =some u→w.cell? ⟨b,n+c+j,none⟩=some u∧abI mark h g w b (n+c+j):=fun j u E=>by
     have p:=hce _ _ (getElem?_sub us c σ.size j u E);rw[eZ];refine⟨p.1,?_⟩;rcases p.2 with V |V
     ·unfold abI;split
      ·exact(aqI R _ _ V).1
      ·exact R.Mw _ _ V
     ·exact(aoq R mark _ _ V).1
    refine⟨x,h,g,L,e,R,Le.refl _ _ _ _,Fz.refl _ _,b,n+c,_,rfl,?_,i⟩
    cases mark with
    |true=>exact PR.mono (dG.refl _ _) (zo R) _ _ _ S
    |false=>exact PR.mono (L8 R) (sk R) _ _ _ S
   ·exact(aj e).elim
  ·exact(aj e).elim
 ·rename_i σ c n y k
  split at e
  ·rename_i D;rw[ak]at D;have hm:mark=false:=by simpa using D.2
   subst hm;obtain⟨b,o,cs,vs,L1,rfl,q,i,e⟩:=aaX R J.c e
   split at e
   ·rename_i x B;have d:=ez D.1 (dM.take σ.size _ _ q) B;refine⟨x,h,g,L1,e,R,Le.refl _ _ _ _,Fz.refl _ _,b,o,_,rfl,PR.mono (L8 R) (sk R) _ _ _ d,fun j u E=> ?_⟩;rw[db]at E
    split at E
    ·have p:=i j u E;exact⟨p,World.block_lt_of_cell? w _ p⟩
    ·cases E
   ·exact(aj e).elim
  ·exact(aj e).elim
 ·rename_i σ c id ix n k
  split at e
  ·rename_i D;rw[ak]at D;have hm:mark=false:=by simpa using D.2
   subst hm;obtain⟨b,o,cs,vs,L1,rfl,q,i,e⟩:=aaX R J.c e
   split at e
   ·rename_i x B;have d:=ez D.1 (dM.take σ.size _ _ q) B;refine⟨x,h,g,L1,e,R,Le.refl _ _ _ _,Fz.refl _ _,b,o,_,rfl,PR.mono (L8 R) (sk R) _ _ _ d,fun j u E=> ?_⟩;rw[db]at E
    split at E
    ·have p:=i j u E;exact⟨p,World.block_lt_of_cell? w _ p⟩
    ·cases E
   ·exact(aj e).elim
  ·exact(aj e).elim
 ·rename_i σ c y k
  cases mark with
  |false=>
   obtain⟨l,L1,e,hp⟩:=amD R J.c e;exact⟨l,h,g,L1,e,R,Le.refl _ _ _ _,Fz.refl _ _,PR.mono (FY R) (sk R) (.sl σ) l _ hp⟩
  |true=>
   unfold aod at e;have e:=cA e
   split at e
   ·rename_i K H Y
    split at e
    ·rename_i H' hH hn;obtain⟨r,hr,e⟩:=bG e;have e:=dS e;obtain⟨g1,T,I,f1,hp⟩:=aon R J.c Y hH hn hr;exact⟨r.1,_,g1,_,e,T,I,f1,PR.mono (dG.refl _ _) (zo T) (.sl σ) _ _ hp⟩
    ·exact(aj e).elim
   ·exact(aj e).elim
 ·rename_i f t f' ids k
  split at e
  ·rename_i hf _;subst hf;obtain⟨N,hv,hp⟩:=J.c;obtain⟨x,p,g1,L1,e,T,I,f1,B⟩:=aqJ mark t ids N.toList h g L k W R hp e;exact⟨x,p,g1,L1,e,T,I,f1,N,by rw[hv],B⟩
  ·exact(aj e).elim
 ·rename_i f t f' t' y k
  split at e
  ·rename_i hf _;subst hf
   split at e
   ·rename_i x B;obtain⟨rfl,rfl⟩:=OV B;have D:PR w g.Z Zp (.cl f t') x [v]:=J.c;refine⟨x,h,g,L,e,R,Le.refl _ _ _ _,Fz.refl _ _,?_⟩
    cases mark with
    |true=>exact PR.mono (dG.refl _ _) (zo R) (.cl f t') x _ D
    |false=>exact PR.mono (L8 R) (sk R) (.cl f t') x _ D
   ·exact(aj e).elim
  ·exact(aj e).elim
 ·rename_i gg cs _ _ _ _ _ _ _
  split at e
  ·rename_i D;simp only[ak]at D;have hgg:=toBeq D.1;obtain⟨vs,q,p,V⟩:=VR.list J
   cases mark with
   |true=>
    obtain⟨U,h3,g3,L3,e,R3,Le3,hg3,azI⟩:=eX _ _ h g _ _ _ R q e
    split at e
    ·rename_i x B;have d:=ez D.2 azI B;exact⟨x,h3,g3,L3,e,R3,Le3,hg3,xQ.list hgg p V (PR.mono (dG.refl _ _) (zo R3) _ _ _ d)⟩
    ·exact(aj e).elim
   |false=>
    obtain⟨U,L1,e,z⟩:=se R _ _ _ _ _ q e
    split at e
    ·rename_i x B;have d:=ez D.2 z B;exact⟨x,h,g,L1,e,R,Le.refl _ _ _ _,Fz.refl _ _,xQ.list hgg p V (PR.mono (FY R) (sk R) _ _ _ d)⟩
    ·exact(aj e).elim
  ·exact(aj e).elim
 ·exact(aj e).elim
theorem L9(mark:Bool):∀(ps:List Ty) (as:List A) (vs:List Value) (h:bm) (g:G) (L:Log) (k:(jN ps).den→HM) (c:A×bm×Log),HR w0 Z0 Zp h g w→
  dR (fun b t=>∃u,t=[u]∧AR w w0.heap.size Zp h g b u) as vs→(ajT mark ps as k).eval next h L=some c→
  ∃x j g1 L1,(k x).eval next j L1=some c∧HR w0 Z0 Zp j g1 w∧Le Zp h g w j g1 w∧Fz h g j g1∧xR w (if mark=true then g1.Z else All w) (All w) ps x vs
 |[],as,vs,h,g,L,k,c,R,p,e=>by
  cases as with
  |nil=>exact⟨(),h,g,L,e,R,Le.refl _ _ _ _,Fz.refl _ _,p⟩
  |cons _ _=>exact(aj e).elim
 |[τ],as,vs,h,g,L,k,c,R,p,e=>by
  cases as with
  |nil=>exact(aj e).elim
  |cons a as=>
   cases as with
   |cons _ _=>exact(aj e).elim
   |nil=>
    obtain⟨t,d,E,⟨u,F,o⟩,q⟩:=p;simp only[dR]at q;subst q;subst F;obtain⟨x,j,g1,L1,H,D,i,l,B⟩:=abK mark R o e;exact⟨x,j,g1,L1,H,D,i,l,u,by simpa using E,xQ.mono (dG.refl _ _) (abJ mark) B⟩
 |τ::σ::ps,as,vs,h,g,L,k,c,R,p,e=>by
  cases as with
  |nil=>exact(aj e).elim
  |cons a as=>
   obtain⟨t,d,E,⟨u,F,o⟩,q⟩:=p;subst F;obtain⟨x,j,g1,L1,H,D,i,l,B⟩:=abK mark R o e;obtain⟨y,O,N,J,M,K,n,I,Q⟩:=L9 mark (σ::ps) as d j g1 L1 _ c D (dR.mono (fun b t ⟨u,e,o⟩=>⟨u,e,AR.mono i _ _ o⟩) _ _ q) H;refine⟨(x,y),O,N,J,M,K,i.trans n,l.trans I,u,d,by simpa using E,?_,Q⟩
   cases mark with
   |true=>exact xQ.mono n.z (abJ true) B
   |false=>exact xQ.mono (dG.refl _ _) (abJ false) B
theorem aqK{a:List Nat}{d:Array Value}(t:dR (fun o c=>g.al o∧∃u,c=[u]∧MU u∧(look .dead o h≠.dead→∃b,g.hm o=some b∧u= .pointer (some ⟨b,0,none⟩))) a d.toList):
  dR (fun b c=>∃u,c=[u]∧AR w base Zp h g b u) (auw a) d.toList:=by
 have:∀(a:List Nat) (i:List Value),dR (fun o c=>g.al o∧∃u,c=[u]∧MU u∧(look .dead o h≠.dead→∃b,g.hm o=some b∧u= .pointer (some ⟨b,0,none⟩))) a i→
   dR (fun b c=>∃u,c=[u]∧AR w base Zp h g b u) (a.map fun o=>A.v false [.ptr o 0]) i:=by
  intro a
  induction a with
  |nil=>intro i h;exact h
  |cons o a y=>
   intro i x;obtain⟨c,e,l,⟨j,u,n,k,q⟩,p⟩:=x;exact⟨c,e,l,⟨u,n,AR.qF ⟨j,k,q⟩⟩,y e p⟩
 exact this a _ t
theorem ah6{f:FuncId}{fn:Func}(d:P.funcs[f]? =some fn)(c:(fn.name== "runtime.NumGoroutine")=false)(a:fn.body.isNone=false)(b:Array Value):(callFunc f b).run P w= .ok (.enter f b) w:=by
 have i:¬ fn.name= "runtime.NumGoroutine":=by simpa using c
 have e:¬ fn.body=none:=by intro h;rw[h]at a;cases a
 simp[callFunc,program,Sem.run,d,i,e]
theorem HR.asZ(R:HR w0 Z0 Zp h g w)(W:w.Extends w'){new:Nat}(hn:¬ g.al new){size len:Nat}{ob:Option Nat}{v:Value}(ho:aqG w w' size len ob v):
  let g':G:={ al:=fun o=>g.al o∨o=new,Z:=aqF g.Z w w' ob (len*size),hm:=upd g.hm new ob,lo:=upd g.lo new (len*size),pm:=g.pm }
  HR w0 Z0 Zp ((new,.tok)::h) g' w'∧Le Zp h g w ((new,.tok)::h) g' w'∧awU w' w0.heap.size g' new size len v:=by
 intro g';have hsz:=W.size;have Q:∀o,o≠new→look .dead o ((new,Ob.tok)::h)=look .dead o h:=fun o j=>by rw[aW,if_neg (Ne.symm j)]
 have Y:look .dead new ((new,Ob.tok)::h)= .tok:=by rw[aW,if_pos rfl]
 have I:∀o,o≠new→g'.hm o=g.hm o:=fun o j=>jO _ _ j;have J:g'.hm new=ob:=qd _ _ _;have T:∀b,ob=some b→w.heap.size≤b∧b<w'.heap.size:=by
  intro b hb;rcases ho with⟨E,_⟩|⟨b',cap,cur,e0,E,_,h3,_,_,_,h7⟩
  ·rw[E]at hb;cases hb
  ·rw[E]at hb;cases hb;exact⟨h7,(Array.getElem?_eq_some_iff.1 h3).1⟩
 have L:Le Zp h g w ((new,.tok)::h) g' w':=by
  refine⟨fun o S=> .inl S,fun c i D=>⟨.inl D,W.cell _ (R.Mw c i D)⟩,R.zpk (fun c y _=>W.block c (ca y R.im)) R.zp,fun o S=> ?_,fun o S _=> ?_,fun o S ht=> ?_,fun _ _ _ h=>h⟩
  ·rw[Q o (fun e=>hn (e▸S))];exact Ob.to.refl _
  ·exact I o (fun e=>hn (e▸S))
  ·rw[Q o (fun e=>hn (e▸S))]at ht;exact⟨jO _ _ (fun e=>hn (e▸S)),fun c y=>W.block c (R.home o c (by rw[ht];simp) y).2⟩
 refine⟨⟨R.ext.trans W,fun o=> ?_,fun o S=> ?_,fun o c hd y=> ?_,fun o p c hd U y N=> ?_,fun o c i O y D=> ?_,fun o c i ht y D=> ?_,fun c i D=> ?_,fun c i y D=> ?_,fun c i D=> .inl (R.z0 c i D),R.zp,R.gh.keep L (fun c wr K H y=> ?_) rfl (fun c id b V=>W.block b (R.gh.lt c id b V)) hsz (fun c id b i V D=> ?_) (fun c id b o V hd y=> ?_)⟩,L,?_⟩
 ·by_cases j:o=new
  ·subst j;rw[Y];trivial
  ·rw[Q o j];exact Qf.mono L (.inr (I o j)) (fun hd c y=>W.block c (R.home o c hd y).2) (R.ob o)
 ·have j:o≠new:=fun e=>S (.inr e);rw[Q o j];exact R.dead o fun h=>S (.inl h)
 ·by_cases j:o=new
  ·subst j;rw[J]at y;have:=T c y;have:=R.im;omega
  ·rw[Q o j]at hd;rw[I o j]at y;have:=R.home o c hd y;exact⟨this.1,by omega⟩
 ·by_cases E:o=new
  ·by_cases M:p=new
   ·rw[E,M]
   ·subst E;rw[J]at y;rw[Q p M]at U;rw[I p M]at N;have:=T c y;have:=R.home p c U N;omega
  ·by_cases M:p=new
   ·subst M;rw[J]at N;rw[Q o E]at hd;rw[I o E]at y;have:=T c N;have:=R.home o c hd y;omega
   ·rw[Q o E]at hd;rw[I o E]at y;rw[Q p M]at U;rw[I p M]at N;exact R.nA o p c hd U y N
 ·by_cases E:o=new
  ·subst E;rw[Y]at O;simp[Ob.open?]at O
  ·rw[Q o E]at O;rw[I o E]at y;have hal:look .dead o h≠.dead:=by intro hd;rw[hd]at O;simp[Ob.open?]at O
   rcases D with D |⟨e,_⟩
   ·exact R.kS o c i O y D
   ·have:=R.home o c hal y;omega
 ·by_cases E:o=new
  ·subst E;rw[J]at y;show i<upd g.lo o (len*size) o;rw[qd];rcases D with D |⟨_,_,D⟩
   ·have:=T c y;have:=R.Mw c i D;omega
   ·exact D y
  ·rw[Q o E]at ht;rw[I o E]at y;show i<upd g.lo new (len*size) o;rw[jO _ _ E];rcases D with D |⟨e,_⟩
   ·exact R.Mv o c i ht y D
   ·have:=R.home o c (by rw[ht];simp) y;omega
 ·rcases D with D |⟨_,M,_⟩
  ·have:=R.Mw c i D;omega
  ·exact M
 ·rcases D with D |⟨E,_⟩
  ·exact R.Ji c i y D
  ·have:=R.im;omega
 ·by_cases j:c=new
  ·subst j;rw[Y]at y;cases y
  ·rw[Q c j]at y;exact y
 ·rcases D with D |⟨E,_⟩
  ·exact R.gh.kS c id b i V D
  ·have:=R.gh.lt c id b V;omega
 ·by_cases j:o=new
  ·subst j;rw[J]at y;have:=T b y;have:=R.gh.lt c id b V;omega
  ·rw[Q o j]at hd;rw[I o j]at y;exact R.gh.loc c id b o V hd y
 ·have hlo:g'.lo new=len*size:=qd _ _ _;rcases ho with⟨E,M,h3⟩|⟨b,cap,cur,e0,E,M,h3,h4,h5,h6,h7⟩
  ·exact .inl ⟨J.trans E,M,h3⟩
  ·have:=R.im;exact .inr ⟨b,cap,cur,e0,J.trans E,M,h3,h4,h5,h6,by omega,hlo⟩
theorem aqL{Z o:cD}{e:Ty}(J:e.flat=true){l:List e.den}{v:Value}{Q:Option Nat}(M:PR w' Z jC (.sl e) l [v])(K:aqG w w' e.size (af l) Q v)(hz:∀b i,w.heap.size≤b→b<w'.heap.size→i<af l*e.size→o b i):PR w' o jC (.sl e) l [v]:=by
 obtain⟨base,c,y,a,B,q,D⟩:=M;refine⟨base,c,y,a,B,dR.mono (fun x E O=>PR.flat e x E J O) _ _ q,fun n=> ?_⟩;obtain⟨b,R,rfl,I⟩:=D n;have N:=dR.length (PR.k e) l y q;rcases K with⟨_,d,_⟩|⟨S,p,z,T,_,d,F,_,_,_,H⟩
 ·rw[d]at a;simp at a
 ·rw[d]at a;simp only[List.cons.injEq,Value.slice.injEq,Option.some.injEq,Addr.mk.injEq,and_true]at a;obtain⟨⟨rfl,rfl⟩,_⟩:=a;refine⟨_,_,rfl,fun j u t=>⟨(I j u t).1,hz _ _ H (Array.getElem?_eq_some_iff.1 F).1 ?_⟩⟩;have:=(List.getElem?_eq_some_iff.1 t).1;omega
def OW(w:World)(base:Nat)(Zp:cD)(h:bm)(g:G):(ps:List VT)→(BB ps).den→List Value→Prop
 |[],_,b=>b=[]
 |[V],x,b=>∃v,b=[v]∧AR w base Zp h g (Eh V x) v
 |V::U::r,x,b=>∃v a,b=v::a∧AR w base Zp h g (Eh V x.1) v∧OW w base Zp h g (U::r) x.2 a
structure pS (P:Program) (f:FuncId) (E:xt):Prop where
 fn:∃fn,P.funcs[f]? =some fn∧(fn.name== "runtime.NumGoroutine")=false∧fn.body.isNone=false
 ok:E.rs.all VT.ok=true
 calls:∀(w0:W0) (Z0 Zp:cD) (g:G) (x:(BB E.ps).den) (hs:gF E.ws) (ho:gF E.os) (r:(BB E.rs).den) (hs':gF E.ws) (args:List Value),
  HR w0 Z0 Zp (dF true E.ws hs++dF false E.os ho) g w0.toWorld→(∀p,g.al p→p∈(E.ws++E.os).map (·.1))→OW w0.toWorld w0.heap.size Zp (dF true E.ws hs++dF false E.os ho) g E.ps x args→E.F x hs ho=some (r,hs')→
  Calls P f args.toArray w0.toWorld fun e w'=>∃v g',e= .returned v∧HR w0 Z0 Zp (dF true E.ws hs') g' w'∧AR w' w0.heap.size Zp (dF true E.ws hs') g' (L0 E.rs r) v
end
section
variable {P:Program} {w0:W0} {w w':World} {Z0 Zp Uk:cD} {h h':bm} {g g':G} {new next base base':Nat} {r:A} {L L':Log} {X:Cx}
theorem VT.wH(M:dG w w' g.Z g'.Z)(J:∀c id e,g.pm c id=some e→g'.pm c id=some e):∀(V:VT) (x:V.den) (vs:List Value),V.ok=true→dM w base Zp h g (V.cells x) vs→dM w' base' Uk h' g' (V.cells x) vs
 |.data τ,x,vs,D,j=>dM.ar2 τ x vs (PR.cE τ x vs D (PR.mono (Zp:=jC) (Uk:=jC) M (fun _ _ h=>h.elim) τ x vs (PR.cE τ x vs D (Ty.BJ D j))))
 |.gp c N,none,vs,_,j=>j
 |.gp c N,some id,vs,_,⟨v,i,e,⟨q,E,H⟩,I⟩=>⟨v,i,e,⟨q,J _ _ _ E,H⟩,I⟩
 |.gs c,none,vs,_,j=>j
 |.gs c,some (id,a,n),vs,_,⟨v,i,e,⟨b,k,K,O,o,E,H⟩,I⟩=>⟨v,i,e,⟨b,k,K,O,o,J _ _ _ E,H⟩,I⟩
 |.gm c,none,vs,_,j=>j
 |.gm c,some id,vs,_,⟨v,i,e,⟨q,E,H⟩,I⟩=>⟨v,i,e,⟨q,J _ _ _ E,H⟩,I⟩
 |.pair a b,x,vs,D,j=>by
  have D:(a.ok&&b.ok)=true:=D;rw[ak]at D;obtain⟨us,rs,e,E,H⟩:=dM.split (a.cells x.1) (b.cells x.2) vs j;rw[e];exact dM.append _ _ _ _ (VT.wH M J a _ _ D.1 E) (VT.wH M J b _ _ D.2 H)
 |.unit,_,_,_,j=>j
theorem VT.aa0(D:dG w w' g.Z g'.Z)(H:∀c id e,g.pm c id=some e→g'.pm c id=some e){V:VT}{x:V.den}{i:Bool}{v:Value}(E:V.ok=true)(j:VR w base Zp h g i (V.cells x) v):VR w' base' Uk h' g' i (V.cells x) v:=by
 cases i with
 |true=>obtain⟨vs,e,I⟩:=j;exact⟨vs,e,VT.wH D H _ _ _ E I⟩
 |false=>exact VT.wH D H _ _ _ E j
theorem uI.move(U:dG w w' g.Z g'.Z)(I:∀c id e,g.pm c id=some e→g'.pm c id=some e){c id:Nat}(T:∀e,g.pm c id=some e→w'.heap[e.1]? =w.heap[e.1]?):∀(K:GK) (x:K.xp),K.ok=true→uI w base Zp h g c id K x→uI w' base' Uk h' g' c id K x
 |.st V,_,O,⟨J,b,D,H,R,i,M,N⟩=>⟨J,b,D,H,R,I _ _ _ i,(T _ i).trans M,VT.wH U I V _ _ O N⟩
 |.bf V,_,O,⟨J,b,k,D,H,R,i,M,N,Q,h5,h6⟩=>⟨J,b,k,D,H,R,I _ _ _ i,(T _ i).trans M,N,Q,h5,dR.mono (fun x es hx=>VT.wH U I V x es O hx) _ _ h6⟩
 |.mp k V,_,O,⟨J,S,b,es,E,i,M,N,Q⟩=>⟨J,S,b,es,E,I _ _ _ i,(T _ i).trans M,N,fun j p e Y W=>⟨(Q j p e Y W).1,VT.aa0 U I O (Q j p e Y W).2⟩⟩
def io(wr:Bool):(l:List (Nat×GK))→gF l→Nat→Option Ob
 |[],_,_=>none
 |(c,K)::r,x,p=>if c=p then some (.gh wr K x.1)else io wr r x.2 p
theorem Jo(wr:Bool)(p:Nat)(T:bm):∀(l:List (Nat×GK)) (x:gF l),look .dead p (dF wr l x++T)=(io wr l x p).getD (look .dead p T)
 |[],_=>rfl
 |(c,K)::r,x=>by
  show look .dead p ((c,.gh wr K x.1)::(dF wr r x.2++T))=_;rw[aW];unfold io
  split
  ·rfl
  ·exact Jo wr p T r x.2
theorem ru{wr:Bool}{p:Nat}{b:Ob}:∀(l:List (Nat×GK)) (x:gF l),io wr l x p=some b→p∈l.map (·.1)∧∃K H,b= .gh wr K H
 |[],_,h=>by cases h
 |(c,K)::r,x,h=>by
  unfold io at h
  split at h
  ·rename_i e;cases h;exact⟨by simp[e],K,x.1,rfl⟩
  ·obtain⟨a,d⟩:=ru r x.2 h;exact⟨by simp at a ⊢;exact .inr a,d⟩
theorem Us{wr:Bool}{p:Nat}:∀(l:List (Nat×GK)) (x:gF l),p∈l.map (·.1)→∃K H,io wr l x p=some (.gh wr K H)
 |[],_,h=>by simp at h
 |(c,K)::r,x,h=>by
  unfold io
  split
  ·exact⟨K,x.1,rfl⟩
  ·rename_i a;refine Us r x.2 ?_;simp only[cb,List.mem_cons]at h;rcases h with h |h
   ·exact absurd h.symm a
   ·exact h
theorem abL{wr:Bool}{p:Nat}{l:List (Nat×GK)}{x:gF l}(h:p∉l.map (·.1)):io wr l x p=none:=by
 cases a:io wr l x p with
 |none=>rfl
 |some b=>exact absurd (ru l x a).1 h
theorem Ut{wr:Bool}{d:A×bm×Log}:∀(l:List (Nat×GK)) (k:gF l→HM) (L:Log),(asJ wr l k).eval next h L=some d→
  ∃y L1,(k y).eval next h L1=some d∧∀p K H,io wr l y p=some (.gh wr K H)→∃a,look .dead p h= .gh a K H∧(wr=true→a=true)
 |[],k,L,e=>⟨(),L,e,fun p K H h=>by cases h⟩
 |(c,K)::r,k,L,e=>by
  have e:=cA e
  split at e
  ·rename_i a q H x
   split at e
   ·rename_i B t b;obtain⟨u,rfl⟩:=jP t;subst u;obtain⟨y,L1,e,z⟩:=Ut r _ _ e;refine⟨(H,y),L1,e,fun p n H1 o=> ?_⟩;have i:(if c=p then some (Ob.gh wr q H)else io wr r y p)=some (.gh wr n H1):=o;clear o
    by_cases j:c=p
    ·rw[if_pos j]at i;subst j
     cases i;exact⟨a,x,fun h=>by rw[h]at b;simpa using b⟩
    ·rw[if_neg j]at i;exact z p n H1 i
   ·exact(aj e).elim
  ·exact(aj e).elim
def xv:(l:List (Nat×GK))→gF l→bm→bm
 |[],_,h=>h
 |(c,K)::r,x,h=>xv r x.2 ((c,.gh true K x.1)::h)
theorem WW{a:A×bm×Log}{k:HM}:∀(l:List (Nat×GK)) (x:gF l) (h:bm) (L:Log),(amx l x k).eval next h L=some a→∃L1,k.eval next (xv l x h) L1=some a
 |[],_,h,L,e=>⟨L,e⟩
 |(c,K)::r,x,h,L,e=>WW r x.2 _ _ (dS e)
theorem WX{p:Nat}:∀(l:List (Nat×GK)) (x:gF l) (h:bm),P8 (l.map (·.1))=true→look .dead p (xv l x h)=(io true l x p).getD (look .dead p h)
 |[],_,h,_=>rfl
 |(c,K)::r,x,h,a=>by
  simp only[cb,P8,ak,aZ]at a;unfold xv io;rw[WX r x.2 _ a.2,aW]
  split
  ·rename_i b;subst b;rw[abL (by simpa using a.1)];rfl
  ·rfl
theorem abM:∀(a b:List Nat),P8 (a++b)=true→P8 a=true
 |[],_,_=>rfl
 |c::a,b,h=>by
  simp only[ev,P8,ak,aZ]at h ⊢;refine⟨?_,abM a b h.2⟩;have:=h.1;simp at this ⊢;exact this.1
def aqM(w:World)(h:bm)(g:G)(ws os:List (Nat×GK))(yo:gF os):W0:=
 { toWorld:=w,B:=fun b=>∃c id,c∈ws.map (·.1)∧GL h g c id b,pm:=g.pm,ro:=fun c=>match io false os yo c with |some (.gh _ K H)=>some ⟨K,H⟩|_=>none,ws:=fun c=>c∈ws.map (·.1) }
def akh(g:G)(ws os:List (Nat×GK)):G:=⟨fun o=>o∈(ws++os).map (·.1),g.Z,fun _=>none,fun _=>0,g.pm⟩
section
variable {ws os:List (Nat×GK)} {y:gF ws} {yo:gF os}
theorem agC(p:Nat):look .dead p (dF true ws y++dF false os yo)=(io true ws y p).getD ((io false os yo p).getD .dead):=by
 have:=Jo false p [] os yo;rw[cG]at this;rw[Jo,this];rfl
theorem HR.avl(R:HR w0 Z0 Zp h g w)(hy:∀p K H,io true ws y p=some (.gh true K H)→look .dead p h= .gh true K H)(W:∀p K H,io false os yo p=some (.gh false K H)→∃wr,look .dead p h= .gh wr K H):
  HR (aqM w h g ws os yo) g.Z (Yn h g w) (dF true ws y++dF false os yo) (akh g ws os) w:=by
 have D:∀c wr K H,look .dead c (dF true ws y++dF false os yo)= .gh wr K H→(∃E,look .dead c h= .gh E K H)∧(wr=true→c∈ws.map (·.1)∧look .dead c h= .gh true K H)∧(wr=false→io false os yo c=some (.gh false K H)):=by
  intro c wr K H N;rw[agC]at N
  cases j:io true ws y c with
  |some ob=>
   rw[j]at N;obtain⟨hm,T,H1,rfl⟩:=ru ws y j
   cases N;have:=hy c K H j;exact⟨⟨_,this⟩,fun _=>⟨hm,this⟩,fun h=>Bool.noConfusion h⟩
  |none=>
   rw[j]at N
   cases I:io false os yo c with
   |some ob=>
    rw[I]at N;obtain⟨hm,T,H1,rfl⟩:=ru os yo I
    cases N;exact⟨W c K H I,fun h=>Bool.noConfusion h,fun _=>rfl⟩
   |none=>rw[I]at N;cases N
 have S:∀o,(∃wr K H,look .dead o (dF true ws y++dF false os yo)= .gh wr K H)∨look .dead o (dF true ws y++dF false os yo)= .dead:=by
  intro o;rw[agC]
  cases j:io true ws y o with
  |some ob=>obtain⟨hm,T,H1,rfl⟩:=ru ws y j;exact .inl ⟨_,_,_,rfl⟩
  |none=>
   cases I:io false os yo o with
   |some ob=>obtain⟨hm,T,H1,rfl⟩:=ru os yo I;exact .inl ⟨_,_,_,rfl⟩
   |none=>exact .inr rfl
 have Q:∀c id b,GL (dF true ws y++dF false os yo) (akh g ws os) c id b→GL h g c id b:=by
  rintro c id b ⟨wr,K,H,x,e,j,I,U,h4⟩;obtain⟨⟨E,J⟩,_⟩:=D c wr K H j;exact⟨E,K,H,x,e,J,I,U,h4⟩
 refine⟨⟨rfl,rfl,rfl,az _,fun _ _ _=>rfl⟩,fun o=> ?_,fun o ha=> ?_,fun o b _ M=>(by cases M),fun o p b _ _ M _=>(by cases M),fun o b i _ M=>(by cases M),fun o b i _ M=>(by cases M),R.Mw,fun b i _ O=> .inl O,fun b i O=>O,fun b i O=>⟨O.1,fun⟨c,id,_,hB⟩=>O.2 c id hB⟩,
  ⟨fun c wr K H id x j I=> ?_,fun c wr K H id j I=> ?_,fun c id b j=>R.gh.lt c id b (Q c id b j),fun c K H id x e j I U=> ?_,fun c id c' Y b j I=>R.gh.nA c id c' Y b (Q _ _ _ j) (Q _ _ _ I),fun c id b i j=>R.gh.kS c id b i (Q _ _ _ j),fun c id b o _ _ M=>(by cases M),fun c wr V H id e j I=> ?_,fun c id e j=>j,fun c K H j=> ?_,fun c id b i j O=>O.2 c id (Q _ _ _ j),fun c wr K H j=> ?_,fun c K H j=>((D c true K H j).2.1 rfl).1,fun c id e j=> .inl j⟩⟩
 ·rcases S o with⟨wr,K,H,j⟩|j
  ·rw[j];rfl
  ·rw[j];trivial
 ·rcases S o with⟨wr,K,H,j⟩|j
  ·exfalso;apply ha;show o∈(ws++os).map (·.1);rw[eu,List.mem_append]
   cases wr with
   |true=>exact .inl ((D o true K H j).2.1 rfl).1
   |false=>exact .inr (ru os yo ((D o false K H j).2.2 rfl)).1
  ·exact j
 ·obtain⟨⟨E,J⟩,_⟩:=D c wr K H j;exact uI.move (w':=w) (g:=g) (g':=akh g ws os) (fun _ _ h=>⟨h,rfl⟩) (fun _ _ _ h=>h) (fun _ _=>rfl) K x (R.gh.kok c E K H J) (R.gh.xp c E K H id x J I)
 ·obtain⟨⟨E,J⟩,_⟩:=D c wr K H j;exact R.gh.fresh c E K H id J I
 ·obtain⟨_,J,_⟩:=D c true K H j;exact .inr ⟨c,id,(J rfl).1,true,K,H,x,e,(J rfl).2,I,U,rfl⟩
 ·obtain⟨⟨E,J⟩,_⟩:=D c wr _ H j;exact R.gh.psz c E V H id e J I
 ·have J:=(D c false K H j).2.2 rfl;show(match io false os yo c with |some (.gh _ K H)=>some (⟨K,H⟩:Σ K:GK,List (Option K.xp))|_=>none)=_;rw[J]
 ·obtain⟨⟨E,J⟩,_⟩:=D c wr K H j;exact R.gh.kok c E K H J
theorem HR.as0(R:HR w0 Z0 Zp h g w)(hd:P8 (ws.map (·.1))=true)(hy:∀p K H,io true ws y p=some (.gh true K H)→look .dead p h= .gh true K H){y':gF ws}{g2:G}(R2:HR (aqM w h g ws os yo) g.Z (Yn h g w) (dF true ws y') g2 w')
  (hk:∀p K H K' Q,io true ws y p=some (.gh true K H)→io true ws y' p=some (.gh true K' Q)→K=K') {g':G} (hg:g'={ g with Z:=g2.Z,pm:=g2.pm }):
  HR w0 Z0 Zp (xv ws y' h) g' w'∧Le Zp h g w (xv ws y' h) g' w':=by
 subst hg;have lk:∀p,look .dead p (xv ws y' h)=(io true ws y' p).getD (look .dead p h):=fun p=>WX ws y' h hd;have lk2:∀p,look .dead p (dF true ws y')=(io true ws y' p).getD .dead:=fun p=>by
  have:=Jo true p [] ws y';rwa[cG]at this
 have D:∀p,p∈ws.map (·.1)→∃K H Q,look .dead p (xv ws y' h)= .gh true K Q∧look .dead p (dF true ws y')= .gh true K Q∧look .dead p h= .gh true K H:=fun p hp=>by
  obtain⟨K',Q,j⟩:=Us (wr:=true) ws y' hp;obtain⟨K,H,O⟩:=Us (wr:=true) ws y hp;have:=hk p K H K' Q O j;subst this;exact⟨K,H,Q,by rw[lk,j];rfl,by rw[lk2,j];rfl,hy p K H O⟩
 have M:∀p,p∉ws.map (·.1)→look .dead p (xv ws y' h)=look .dead p h:=fun p hp=>by rw[lk,abL hp];rfl
 have avm:∀p,p∈ws.map (·.1)→g.hm p=none:=fun p hp=>by
  obtain⟨K,H,Q,_,_,N⟩:=D p hp;have:=R.ob p;rw[N]at this;exact this
 have S:∀p,look .dead p (xv ws y' h)≠.dead→look .dead p h≠.dead:=fun p hp=>by
  by_cases hm:p∈ws.map (·.1)
  ·obtain⟨K,H,Q,_,_,N⟩:=D p hm;rw[N];simp
  ·rw[←M p hm];exact hp
 have hs:w.heap.size≤w'.heap.size:=R2.ext.size;have aqN:∀b,b<w.heap.size→(∀c id,c∈ws.map (·.1)→¬ GL h g c id b)→w'.heap[b]? =w.heap[b]? :=fun b I hn=>R2.ext.block b I fun⟨c,id,hc,W⟩=>hn c id hc W
 have auG:∀o b,look .dead o h≠.dead→g.hm o=some b→w'.heap[b]? =w.heap[b]? :=fun o b hd I=>aqN b (R.home o b hd I).2 fun c id _ W=>R.gh.loc c id b o W hd I
 have azJ:∀c id b,c∉ws.map (·.1)→GL h g c id b→w'.heap[b]? =w.heap[b]? :=fun c id b hc W=>aqN b (R.gh.lt c id b W) fun c2 id2 hc2 hG2=>hc ((R.gh.nA _ _ _ _ _ W hG2).1▸hc2)
 have hzk:dG w w' g.Z g2.Z:=fun b i T=>⟨R2.z0 b i T,bW (aqN b (R.Mw b i T) fun c id _ W=>R.gh.kS c id b i W T)⟩;have hZn:∀b i,g2.Z b i→b<w.heap.size→g.Z b i∨∃c id,c∈ws.map (·.1)∧GL h g c id b:=fun b i T I=>R2.Ji b i I T;have hpo:∀c id e,g.pm c id=some e→g2.pm c id=some e:=R2.gh.old;have hpn:∀c id e,g2.pm c id=some e→g.pm c id=some e∨c∈ws.map (·.1):=R2.gh.new;have L:Le Zp h g w (xv ws y' h) { g with Z:=g2.Z,pm:=g2.pm } w':=by
  refine⟨fun o ha=>ha,hzk,R.zpk (fun b I hB=>aqN b (ca I R.im) fun c id hc W=> ?_) R.zp,fun p _=> ?_,fun _ _ _=>rfl,fun p _ ht=>⟨rfl,fun b I=> ?_⟩,hpo⟩
  ·obtain⟨K,H,Q,_,_,N⟩:=D c hc;obtain⟨wr,K1,H1,x,e,h4,E,h6,h7⟩:=W;rw[N]at h4;cases h4;rcases R.gh.own c _ _ id x e N E h6 with h8 |h8
   ·omega
   ·exact hB (h7▸h8)
  ·by_cases hm:p∈ws.map (·.1)
   ·obtain⟨K,H,Q,j,_,N⟩:=D p hm;rw[j,N];exact .inr (.inr (.inr (.inr (.inr (.inl ⟨_,_,_,rfl,rfl⟩)))))
   ·rw[M p hm];exact Ob.to.refl _
  ·have hm:p∉ws.map (·.1):=fun hm=>by
    obtain⟨K,H,Q,j,_,N⟩:=D p hm;rw[j]at ht;cases ht
   rw[M p hm]at ht;exact auG p b (by rw[ht];simp) I
 have hGL:∀c id b,GL (xv ws y' h) { g with Z:=g2.Z,pm:=g2.pm } c id b→(c∉ws.map (·.1)∧GL h g c id b)∨(c∈ws.map (·.1)∧GL (dF true ws y') g2 c id b∧(w.heap.size≤b∨∃c2 id2,c2∈ws.map (·.1)∧GL h g c2 id2 b)):=by
  rintro c id b ⟨wr,K1,H1,x,e,j,O,N,h4⟩
  by_cases hm:c∈ws.map (·.1)
  ·obtain⟨K,H,Q,J,U,k3⟩:=D c hm;rw[J]at j;cases j;refine .inr ⟨hm,⟨true,_,_,x,e,U,O,N,h4⟩,?_⟩;rcases R2.gh.own c _ _ id x e U O N with E |E
   ·exact .inl (h4▸E)
   ·exact .inr (h4▸E)
  ·rw[M c hm]at j;rcases hpn c id e N with E |E
   ·exact .inl ⟨hm,wr,K1,H1,x,e,j,O,E,h4⟩
   ·exact absurd E hm
 refine⟨⟨⟨R2.ext.os.trans R.ext.os,R2.ext.tape.trans R.ext.tape,R2.ext.output.trans R.ext.output,ei R.ext.size hs,fun i hi hB=> ?_⟩,fun p=> ?_,fun p ha=> ?_,fun p b hd I=> ?_,fun p q b hd hd' I hb'=>R.nA p q b (S p hd) (S q hd') I hb',fun p b i hp I T=> ?_,fun p b i ht I T=> ?_,fun b i T=>R2.Mw b i T,fun b i I T=> ?_,fun b i T=>R2.z0 b i (R.z0 b i T),R.zp,?_⟩,L⟩
 ·refine(aqN i (ca hi R.im) fun c id hc W=> ?_).trans (R.ext.block i hi hB);obtain⟨K,H,Q,_,_,N⟩:=D c hc;obtain⟨wr,K1,H1,x,e,h4,E,h6,h7⟩:=W;rw[N]at h4;cases h4;rcases R.gh.own c _ _ id x e N E h6 with h8 |h8
  ·omega
  ·exact hB (h7▸h8)
 ·by_cases hm:p∈ws.map (·.1)
  ·obtain⟨K,H,Q,j,_,N⟩:=D p hm;rw[j];exact avm p hm
  ·rw[M p hm];exact Qf.mono L (.inr rfl) (fun hd b I=>auG p b hd I) (R.ob p)
 ·have hm:p∉ws.map (·.1):=fun hm=>by
   obtain⟨K,H,Q,_,_,N⟩:=D p hm;exact ha (R.alive (by rw[N];simp))
  rw[M p hm];exact R.dead p ha
 ·have:=R.home p b (S p hd) I;exact⟨this.1,by omega⟩
 ·have hm:p∉ws.map (·.1):=fun hm=>by have:=avm p hm;rw[this]at I;cases I
  rw[M p hm]at hp;have hdd:look .dead p h≠.dead:=by intro hd;rw[hd]at hp;cases hp
  rcases hZn b i T (R.home p b hdd I).2 with j |⟨c,id,_,W⟩
  ·exact R.kS p b i hp I j
  ·exact R.gh.loc c id b p W hdd I
 ·have hm:p∉ws.map (·.1):=fun hm=>by have:=avm p hm;rw[this]at I;cases I
  rw[M p hm]at ht;have hdd:look .dead p h≠.dead:=by rw[ht];simp
  rcases hZn b i T (R.home p b hdd I).2 with j |⟨c,id,_,W⟩
  ·exact R.Mv p b i ht I j
  ·exact(R.gh.loc c id b p W hdd I).elim
 ·have hb2:b<w.heap.size:=ca I R.im;rcases hZn b i T hb2 with j |⟨c,id,hc,W⟩
  ·exact R.Ji b i I j
  ·obtain⟨K,H,Q,_,_,N⟩:=D c hc;obtain⟨wr,K1,H1,x,e,h4,E,h6,h7⟩:=W;rw[N]at h4;cases h4;rcases R.gh.own c _ _ id x e N E h6 with h8 |h8
   ·omega
   ·exact .inr (h7▸h8)
 ·refine⟨fun c wr K1 H1 id x j O=> ?_,fun c wr K1 H1 id j O=> ?_,fun c id b j=> ?_,fun c K1 H1 id x e j O N=> ?_,fun c1 id1 c2 id2 b j O=> ?_,fun c id b i j T=> ?_,fun c id b o j hd I=> ?_,fun c wr V H1 id e j O=> ?_,fun c id e j=>hpo _ _ _ (R.gh.old c id e j),fun c K1 H1 j=> ?_,fun c id b i j T=> ?_,fun c wr K1 H1 j=> ?_,fun c K1 H1 j=> ?_,fun c id e j=> ?_⟩
  ·by_cases hm:c∈ws.map (·.1)
   ·obtain⟨K,H,Q,J,U,k3⟩:=D c hm;rw[J]at j;cases j;exact uI.move (w':=w') (g:=g2) (g':={ g with Z:=g2.Z,pm:=g2.pm }) (fun _ _ h=>⟨h,rfl⟩) (fun _ _ _ h=>h) (fun _ _=>rfl) _ x (R.gh.kok c true _ H k3) (R2.gh.xp c true _ _ id x U O)
   ·rw[M c hm]at j;exact uI.mono L (fun e he=>azJ c id e.1 hm ⟨wr,K1,H1,x,e,j,O,he,rfl⟩) _ _ (R.gh.xp c wr K1 H1 id x j O)
  ·by_cases hm:c∈ws.map (·.1)
   ·obtain⟨K,H,Q,J,U,k3⟩:=D c hm;rw[J]at j;cases j;exact R2.gh.fresh c true _ _ id U O
   ·rw[M c hm]at j;have N:=R.gh.fresh c wr K1 H1 id j O
    cases h4:g2.pm c id with
    |none=>rfl
    |some e=>
     rcases hpn c id e h4 with E |E
     ·rw[N]at E;cases E
     ·exact absurd E hm
  ·rcases hGL c id b j with⟨_,O⟩|⟨_,O,_⟩
   ·have:=R.gh.lt c id b O;omega
   ·exact R2.gh.lt c id b O
  ·by_cases hm:c∈ws.map (·.1)
   ·obtain⟨K,H,Q,J,U,k3⟩:=D c hm;rw[J]at j;cases j;rcases R2.gh.own c _ _ id x e U O N with E |⟨c2,id2,hc2,W⟩
    ·have:=R.im;have E:w.heap.size≤e.1:=E;exact .inl (by omega)
    ·obtain⟨K2,H2,H2',_,_,q3⟩:=D c2 hc2;obtain⟨wr,K3,H3,x3,e3,h6,h7,h8,h9⟩:=W;rw[q3]at h6;cases h6;rw[←h9];exact R.gh.own c2 _ _ id2 x3 e3 q3 h7 h8
   ·rw[M c hm]at j;rcases hpn c id e N with E |E
    ·exact R.gh.own c K1 H1 id x e j O E
    ·exact absurd E hm
  ·rcases hGL c1 id1 b j with⟨m1,J⟩|⟨m1,J,q1⟩
   ·rcases hGL c2 id2 b O with⟨m2,U⟩|⟨m2,U,q2⟩
    ·exact R.gh.nA _ _ _ _ _ J U
    ·exfalso;rcases q2 with q2 |⟨c3,id3,hc3,Y⟩
     ·have:=R.gh.lt _ _ _ J;omega
     ·exact m1 ((R.gh.nA _ _ _ _ _ J Y).1▸hc3)
   ·rcases hGL c2 id2 b O with⟨m2,U⟩|⟨m2,U,q2⟩
    ·exfalso;rcases q1 with q1 |⟨c3,id3,hc3,Y⟩
     ·have:=R.gh.lt _ _ _ U;omega
     ·exact m2 ((R.gh.nA _ _ _ _ _ U Y).1▸hc3)
    ·exact R2.gh.nA _ _ _ _ _ J U
  ·rcases hGL c id b j with⟨m1,J⟩|⟨m1,J,q1⟩
   ·rcases hZn b i T (R.gh.lt _ _ _ J)with E |⟨c3,id3,hc3,Y⟩
    ·exact R.gh.kS _ _ _ _ J E
    ·exact m1 ((R.gh.nA _ _ _ _ _ J Y).1▸hc3)
   ·exact R2.gh.kS _ _ _ _ J T
  ·have hd:=S o hd;rcases hGL c id b j with⟨m1,J⟩|⟨m1,J,q1⟩
   ·exact R.gh.loc _ _ _ o J hd I
   ·rcases q1 with q1 |⟨c3,id3,hc3,Y⟩
    ·have:=(R.home o b hd I).2;omega
    ·exact R.gh.loc _ _ _ o Y hd I
  ·by_cases hm:c∈ws.map (·.1)
   ·obtain⟨K,H,Q,J,U,k3⟩:=D c hm;rw[J]at j;cases j;exact R2.gh.psz c true _ _ id e U O
   ·rw[M c hm]at j;rcases hpn c id e O with E |E
    ·exact R.gh.psz c wr V H1 id e j E
    ·exact absurd E hm
  ·have hm:c∉ws.map (·.1):=fun hm=>by
    obtain⟨K,H,Q,J,U,k3⟩:=D c hm;rw[J]at j;cases j
   rw[M c hm]at j;exact R.gh.ro c K1 H1 j
  ·rcases hGL c id b j with⟨m1,J⟩|⟨m1,J,q1⟩
   ·exact R.gh.zpx _ _ _ _ J T
   ·rcases q1 with q1 |⟨c3,id3,hc3,Y⟩
    ·have:=(R.zp b i T).1;have:=R.im;omega
    ·exact R.gh.zpx _ _ _ _ Y T
  ·by_cases hm:c∈ws.map (·.1)
   ·obtain⟨K,H,Q,J,U,k3⟩:=D c hm;rw[J]at j;cases j;exact R.gh.kok c true _ H k3
   ·rw[M c hm]at j;exact R.gh.kok c wr K1 H1 j
  ·by_cases hm:c∈ws.map (·.1)
   ·obtain⟨K,H,Q,J,U,k3⟩:=D c hm;exact R.gh.wsr c K H k3
   ·rw[M c hm]at j;exact R.gh.wsr c K1 H1 j
  ·rcases hpn c id e j with E |E
   ·exact R.gh.new c id e E
   ·obtain⟨K,H,Q,J,U,k3⟩:=D c E;exact .inr (R.gh.wsr c K H k3)
end
end
end Go.Am
