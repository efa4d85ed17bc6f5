import Derived.Laws.Append
import Derived.Laws.Cells
import Derived.Below
import Derived.Tactics
import Derived.Laws.Slices
import Derived.Laws.Entries
import Derived.Laws.Small
import Derived.Laws.StructEq
import Derived.ChangeKeysEq
import Derived.Laws.BytesString
import Derived.Laws.Tables
import Derived.Laws.MakeOwn
set_option linter.all false
namespace Go.Vs
def Ka:=@Option.some.injEq
def Kb:=@Prod.mk.injEq
def Kc:=@List.map_cons
def Kd:=@Nat.le_refl
def Ke:=@Bool.and_eq_true
def Kf:=@Option.bind_eq_some_iff
def Kg:=@List.mem_cons
def Kh:=@List.length_cons
def Ki:=@Option.bind_eq_bind
def Kj:=@List.mem_cons_of_mem
def Kl:=@Nat.eq_of_beq_eq_true
def Km:=@List.mem_cons_self
def Kn:=@List.length_map
def Ko:=@List.length_nil
def Kp:=@Nat.zero_add
def Kq:=@List.cons_append
def Kr:=@List.getElem?_eq_getElem
def Ks:=@List.nil_append
def Kt:=@List.getElem?_cons_zero
def Ku:=@Option.map_eq_some_iff
def Kv:=@List.append_nil
def Kw:=@List.map_append
def Kx:=@List.mem_map
def Ky:=@List.mem_of_getElem?
def Kz:=@List.getElem?_map
def Kaa:=@List.drop_zero
def Kba:=@Nat.add_zero
def Kca:=@List.getElem?_eq_some_iff
def Kda:=@Nat.lt_of_lt_of_le
def Kea:=@List.mem_append
def Kfa:=@List.getElem?_append_right
def Kga:=@List.getElem?_cons_succ
def Kha:=@Option.map_some
def Kia:=@List.length_drop
def Kja:=@Nat.le_trans
def Kka:=@Bool.false_eq_true
def Kla:=@Nat.lt_succ_self
def Kma:=@List.all_eq_true
def Kna:=@List.mem_singleton
def Koa:=@Option.bind_some
def Kpa:=@List.getElem?_append_left
def Kqa:=@List.nodup_cons
def Kra:=@List.take_zero
def Ksa:=@List.getElem?_take
def Kta:=@List.length_take
def Kua:=@List.flatMap_cons
def Kva:=@List.getElem?_drop
def Kwa:=@Array.getD_eq_getD_getElem?
def Kxa:=@Nat.add_mul
def Kya:=@List.getElem?_set
def Kza:=@List.take_succ_cons
def Kab:=@List.length_append
def Kbb:=@Nat.zero_le
def Kcb:=@List.map_take
def Kdb:=@List.map_drop
def Keb:=@List.drop_succ_cons
def Kfb:=@Bool.or_eq_true
def Kgb:=@Nat.le_of_ble_eq_true
def Khb:=@Nat.add_assoc
def Kib:=@List.mem_of_mem_drop
def Kjb:=@Bool.not_eq_true'
def Kkb:=@List.mem_of_mem_take
def Klb:=@List.append_assoc
def Kmb:=@Option.getD_some
def Knb:=@Nat.lt_succ_of_lt
def Kob:=@List.take_of_length_le
def Kpb:=@List.map_map
def Kqb:=@Array.length_toList
def Krb:=@Option.map_none
def Ksb:=@List.map_nil
def Ktb:=@List.getElem_mem
def Kub:=@List.mem_range
def Kvb:=@List.forall_mem_append
def Kwb:=@Nat.mul_le_mul_right
def Kxb:=@Int.toNat_natCast
def Kyb:=@Nat.le_succ
def Kzb:=@List.drop_eq_getElem_cons
def Kac:=@Nat.lt_or_ge
def Kbc:=@Nat.mul_comm
def Kcc:=@List.zip_cons_cons
def Kdc:=@List.mem_append_right
def Kec:=@Int.le_refl
def Kfc:=@List.take_succ_eq_append_getElem
def Kgc:=@List.getElem?_of_mem
def Khc:=@List.getElem?_eq_none
def Kic:=@List.take_length
def Kjc:=@List.drop_left'
def Kkc:=@List.take_append_drop
def Klc:=@Bool.eq_iff_iff
def Kmc:=@Int.not_lt
def Knc:=@Bool.true_and
def Koc:=@Nat.sub_zero
def Kpc:=@Array.getElem?_replicate
def Kqc:=@List.getElem?_set_self
def Krc:=@List.length_eq_zero_iff
def Ksc:=@List.ext_getElem?
def Ktc:=@List.set_set
def Kuc:=@Nat.mod_eq_of_lt
def Kvc:=@List.drop_drop
def Kwc:=@Array.getElem?_eq_getElem
def Kxc:=@List.nodup_append
def Kyc:=@List.take_left'
def Kzc:=@List.filter_cons
def Kad:=@List.getElem_of_mem
def Kbd:=@List.flatten_cons
def Kcd:=@List.getElem?_set_ne
def Kdd:=@Int.eq_ofNat_of_zero_le
def Ked:=@Int.not_le
def Kfd:=@Bool.not_eq_true
def Kgd:=@Bool.not_eq_false
def Khd:=@Bool.not_eq_false'
def Kid:=@Bool.and_eq_false_iff
def Kjd:=@Bool.or_eq_false_iff
def Kkd:=@Bool.not_true
def Kld:=@Nat.mul_one
def Kmd:=@Nat.mod_lt
def Knd:=@Array.getElem?_append_left
def Kod:=@List.mem_filter
def Kpd:=@List.isEmpty_iff
def Kqd:=@List.foldl_cons
def Krd:=@List.getElem?_range
def Ksd:=@Int.toNat_of_nonneg
def Ktd:=@Bool.not_false
def Kud:=@Bool.false_and
def Kvd:=@Nat.min_eq_left
def Kwd:=@List.flatMap_nil
def Kxd:=@Array.getElem?_setIfInBounds_self_of_lt
def Kyd:=@List.eq_nil_of_length_eq_zero
def Kzd:=@List.filterMap_cons_some
def Kae:=@List.mem_filterMap
def Kbe:=@Bool.and_true
def Kce:=@List.mem_append_left
def Kde:=@List.take_set_of_le
def Kee:=@List.filter_append
def Kfe:=@Array.all_eq_true_iff_forall_mem
def Kge:=@List.drop_eq_nil_of_le
def Khe:=@List.length_set
def Kie:=@List.prefix_append
def Kje:=@Nat.div_lt_of_lt_mul
def Kke:=@Nat.div_add_mod
def Kle:=@Array.getElem?_eq_none
def Kme:=@Nat.not_lt_zero
def Kne:=@Array.getElem?_setIfInBounds_ne
def Koe:=@List.take_add_one
def Kpe:=@List.getElem?_eq_none_iff
def Kqe:=@List.any_eq_true
def Kre:=@Bool.and_assoc
def Kse:=@List.foldl_append
def Kte:=@Nat.ne_of_beq_eq_false
def Kue:=@Option.getD_none
def Kve:=@List.map_set
def Kwe:=@Nat.add_right_cancel_iff
def Kxe:=@List.filter_eq_self
def Kye:=@List.cons_prefix_cons
def Kze:=@List.drop_left
def Kaf:=@Nat.eq_zero_or_pos
def Kbf:=@Array.getElem?_toList
def Kcf:=@List.length_range
def Kdf:=@List.mem_map_of_mem
def Kef:=@List.flatten_nil
def Kff:=@List.range'_succ
def Kgf:=@List.filterMap_cons_none
def Khf:=@Bool.false_or
def Kif:=@List.length_filter_le
def Kjf:=@Nat.sub_self
def Kkf:=@List.set_append_right
def Klf:=@Option.toList_some
def Kmf:=@List.drop_set_of_lt
def Knf:=@List.drop_of_length_le
def Kof:=@Bool.and_false
def Kpf:=@List.findIdx?_eq_some_iff_getElem
def Kqf:=@List.findIdx?_eq_none_iff
def Krf:=@List.cons_ne_nil
def Ksf:=@List.size_toArray
def Ktf:=@List.singleton_append
def Kuf:=@List.getElem_cons_succ
def Kvf:=@List.reverse_nil
def Kwf:=@Array.mapM_eq_mapM_toList
def Kxf:=@Array.all_eq_true'
def Kyf:=@Nat.shiftRight_eq_div_pow
def Kzf:=@List.getElem?_nil
def Kag:=@Nat.add_sub_cancel_left
def Kbg:=@Int.ofNat_eq_natCast
def Kcg:=@List.getElem?_take_of_lt
def Kdg:=@Nat.lt_of_not_le
def Keg:=@List.getElem_take
def Kfg:=@List.getD_eq_getElem?_getD
def Kgg:=@Int.emod_eq_of_lt
def Khg:=@List.drop_length
def Kig:=@Nat.pow_le_pow_right
def Kjg:=@Nat.lt_of_le_of_lt
def Kkg:=@Int.tdiv_eq_ediv_of_nonneg
def Klg:=@List.prefix_append_right_inj
def Kmg:=@List.eq_nil_iff_forall_not_mem
def Kng:=@Nat.not_le_of_not_ble_eq_true
def get {α:Type}:List (Nat×α)->Nat->Option α
 | [],_=>none
 | (k,x)::l,t=>if k=t then some x else get l t
def put {α:Type}:List (Nat×α)->Nat->α->List (Nat×α)
 | [],k,x=>[(k,x)]
 | (j,y)::l,k,x=>if j=k then (k,x)::l else (j,y)::put l k x
def del {α:Type}:List (Nat×α)->Nat->List (Nat×α)
 | [],_=>[]
 | (j,y)::l,k=>if j=k then del l k else (j,y)::del l k
theorem Au {α:Type}(l:List (Nat×α)) (k:Nat) (x:α) (t:Nat):get (put l k x) t=if k=t then some x else get l t:=by
 induction l with
 | nil=>simp [put,get]
 | cons a l ih =>
  obtain⟨j,y⟩:=a;simp only[put];split
  ·rename_i h;subst h;simp only[get];split<;>rfl
  ·rename_i h;simp only[get,ih];split
   ·rename_i h2;subst h2;rw[if_neg (fun e=>h e.symm)]
   ·rfl
theorem Ga {α:Type}(l:List (Nat×α)) (k:Nat) (t:Nat):get (del l k) t=if k=t then none else get l t:=by
 induction l with
 | nil=>simp [del,get]
 | cons a l ih =>
  obtain⟨j,y⟩:=a;simp only[del];split
  ·rename_i h;subst h;rw[ih];split<;>simp_all [get]
  ·rename_i h;simp only[get,ih];split
   ·rename_i h2;subst h2;rw[if_neg (fun e=>h e.symm)]
   ·rfl
def Aa {α β:Type}(R:α->β->Prop):List α->List β->Prop
 | [],[]=>True
 | a::as,b::bs=>R a b/\Aa R as bs
 | _,_=>False
theorem Aa.length {α β:Type}{R:α->β->Prop}:∀{as:List α}{bs:List β},Aa R as bs->as.length=bs.length
 | [],[],_=>rfl
 | _::_,_::_,h=>by simp [Aa.length h.2]
 | [],_::_,h=>h.elim
 | _::_,[],h=>h.elim
theorem Aa.get {α β:Type}{R:α->β->Prop}:∀{as:List α}{bs:List β},Aa R as bs->∀(i:Nat) (a:α),as[i]? = some a->∃b,bs[i]? = some b/\R a b
 | [],[],_,i,a,h=>by simp at h
 | x::as,y::bs,h,0,a,e=>by simp at e;subst e;exact⟨y,rfl,h.1⟩
 | x::as,y::bs,h,i+1,a,e=>by simpa using Aa.get h.2 i a (by simpa using e)
 | [],_::_,h,_,_,_=>h.elim
 | _::_,[],h,_,_,_=>h.elim
theorem Aa.mono {α β:Type}{R R':α->β->Prop}(k:∀a b,R a b->R' a b):∀{as:List α}{bs:List β},Aa R as bs->Aa R' as bs
 | [],[],_=>trivial
 | _::_,_::_,h=>⟨k _ _ h.1,Aa.mono k h.2⟩
 | [],_::_,h=>h.elim
 | _::_,[],h=>h.elim
theorem Aa.of_get {α β:Type}{R:α->β->Prop}:∀{as:List α}{bs:List β},as.length=bs.length->(∀(i:Nat) (a:α) (b:β),as[i]? = some a->bs[i]? = some b->R a b)->Aa R as bs
 | [],[],_,_=>trivial
 | a::as,b::bs,h,k=>⟨k 0 a b rfl rfl,Aa.of_get (by simpa using h) fun i x y hx hy=>k (i+1) x y (by simpa using hx) (by simpa using hy)⟩
 | [],_::_,h,_=>by simp at h
 | _::_,[],h,_=>by simp at h
abbrev Ad:=List (Nat×Nat)
inductive D where
 | lf (v:Value)
 | sl (sz:Nat) (es:List (List D))
 | hole
 deriving Inhabited
inductive C where
 | un
 | nl (sz:Nat)
 | lf (v:Value)
 | rf (r:Nat) (p:Ad) (sz lo n:Nat)
 | pe (r:Nat) (p:Ad) (i c:Nat)
 | pb (r:Nat) (c:Nat)
 deriving Inhabited
inductive A where
 | c (x:C)
 | ag (cs:List C)
 deriving Inhabited
inductive V where
 | un
 | a (x:A)
 | tp (xs:List A)
 | fn (f:FuncId) (caps:List A)
 | sb (r n:Nat)
 deriving Inhabited
inductive Root where
 | tr (sz:Nat) (es:List (List D))
 | im (sz:Nat) (es:List (List D))
 | bx (cs:List C)
 | ib (cs:List C)
 deriving Inhabited
structure St where
 env:List (Nat×V)
 roots:List (Nat×Root)
 next:Nat
 fix:Nat
def Al:Nat->List (List D)->Ad->Option (Nat×List (List D))
 | sz,es,[]=>some (sz,es)
 | _,es,(i,c)::p =>
  match (es[i]?).bind (·[c]?) with
  | some (.sl sz' es')=>Al sz' es' p
  | _=>none
theorem Li (sz:Nat) (es:List (List D)) (p q:Ad):Al sz es (p++q)=(Al sz es p).bind fun n=>Al n.1 n.2 q:=by
 induction p generalizing sz es with
 | nil=>rfl
 | cons a p ih =>
  obtain⟨i,c⟩:=a;simp only[Kq,Al];split
  ·exact ih _ _
  ·rfl
theorem Zc8 {sz:Nat}{es:List (List D)}{p:Ad}{n:Nat×List (List D)}(h:Al sz es p=some n) (i c:Nat) :
  Al sz es (p++[(i,c)])=match (n.2[i]?).bind (·[c]?) with|some (.sl sz' es')=>some (sz',es')|_=>none:=by
 rw[Li,h];simp only[Koa,Al]
structure Pl where
 nil:Bool
 b:Nat
 off:Nat
 cap:Nat
 sz:Nat
 raw:Option Addr
 deriving Inhabited
abbrev Lab:=Nat->Nat->Option (Nat×Ad)
abbrev Pls:=Nat->Ad->Pl
def Pl.base (L:Pl):Option Addr:=if L.nil then L.raw else some ⟨L.b,L.off,none⟩
def hdr (L:Pl) (n:Nat):Value:=.slice L.base n L.cap
def DV (L:Pl):D->Value->Prop
 | .lf x,v=>v=x/\x.oneCell'=true
 | .sl sz es,v=>L.sz=sz/\v=hdr L es.length
 | .hole,v=>v.oneCell'=true
def Win (L:Pl) (sz lo n:Nat) (v:Value):Prop :=
 L.sz=sz/\(L.nil=true->L.cap=0)/\lo+n<=L.cap/\∃A:Option Addr,v=.slice A n (L.cap-lo)/\(lo<L.cap\/lo=0->A=if L.nil then L.raw else some ⟨L.b,L.off+lo*L.sz,none⟩)
def CR (pl:Pls) (nx:Nat):C->Value->Prop
 | .un,v=>v.oneCell'=true
 | .nl _,v=>v=.slice none 0 0
 | .lf x,v=>v=x/\x.oneCell'=true
 | .rf r p sz lo n,v=>r<nx/\Win (pl r p) sz lo n v
 | .pe r p i c,v=>r<nx/\(pl r p).nil=false/\v=.pointer (some ⟨(pl r p).b,(pl r p).off+(i*(pl r p).sz+c),none⟩)
 | .pb r c,v=>r<nx/\v=.pointer (some ⟨(pl r []).b,(pl r []).off+c,none⟩)
def AR (pl:Pls) (nx:Nat):A->Value->Prop
 | .c x,v=>CR pl nx x v
 | .ag cs,v=>∃vs:List Value,v=.agg vs.toArray/\Aa (CR pl nx) cs vs
def VR (pl:Pls) (nx:Nat):V->Value->Prop
 | .un,_=>True
 | .a x,v=>AR pl nx x v
 | .tp xs,v=>∃vs:List Value,v=.tuple vs.toArray/\Aa (AR pl nx) xs vs
 | .fn f caps,v=>∃vs:List Value,v=.func (.func f) #[] vs.toArray/\Aa (AR pl nx) caps vs
 | .sb r n,v=>r<nx/\v=.slice (some ⟨(pl r []).b,(pl r []).off,none⟩) n n
structure NodeC (w:World) (pl:Pls) (r:Nat) (p:Ad) (sz:Nat) (es:List (List D)):Prop where
 szp:(pl r p).sz=sz
 le:es.length<=(pl r p).cap
 nil:(pl r p).nil=true->(pl r p).cap=0
 szs:∀e∈es,e.length=sz
 cells:∀i e c d,es[i]? = some e->e[c]? = some d->∃v,w.cell? ⟨(pl r p).b,(pl r p).off+(i*sz+c),none⟩=some v/\DV (pl r (p++[(i,c)])) d v
def L4 (w:World) (g:Lab) (pl:Pls) (r:Nat) (p:Ad):Prop :=
 ∀j,j<(pl r p).cap*(pl r p).sz->g (pl r p).b ((pl r p).off+j)=some (r,p)/\(∃v,w.cell? ⟨(pl r p).b,(pl r p).off+j,none⟩=some v)/\w.frozen? ⟨(pl r p).b,(pl r p).off+j,none⟩=false
def Zmj (st:Nat->Nat->Prop) (pl:Pls) (r:Nat) (p:Ad) (n:Nat):Prop:=∀j,j<n*(pl r p).sz->st (pl r p).b ((pl r p).off+j)
def C8 (st:Nat->Nat->Prop) (w:World) (g:Lab) (pl:Pls) (nx:Nat) (r:Nat):Root->Prop
 | .tr sz es=>∀p n,Al sz es p=some n->NodeC w pl r p n.1 n.2/\L4 w g pl r p
 | .im sz es=>∀p n,Al sz es p=some n->NodeC w pl r p n.1 n.2/\Zmj st pl r p n.2.length
 | .bx cs=>∀c x,cs[c]? = some x->∃v,w.cell? ⟨(pl r []).b,(pl r []).off+c,none⟩=some v/\CR pl nx x v/\g (pl r []).b ((pl r []).off+c)=some (r,[(0,c)])/\w.frozen? ⟨(pl r []).b,(pl r []).off+c,none⟩=false
 | .ib cs=>∀c x,cs[c]? = some x->∃v,w.cell? ⟨(pl r []).b,(pl r []).off+c,none⟩=some v/\CR pl nx x v/\st (pl r []).b ((pl r []).off+c)
class Glb where
 tab:List (Nat×List UInt8)
def Zca:List (Nat×List UInt8)->Nat->Option (List UInt8)
 | [],_=>none
 | x::l,b=>match Nat.beq x.1 b with
  | true=>some x.2
  | false=>Zca l b
def E5 [Glb] (b o:Nat):Option Value:=match Zca Glb.tab b with
 | some l=>match l[o]? with
  | some y=>some (.int .u8 y.toNat)
  | none=>none
 | none=>none
def Qk [Glb] (b o:Nat):Nat->Option (List Value)
 | 0=>some []
 | m+1=>match E5 b o,Qk b (o+1) m with
  | some v,some vs=>some (v::vs)
  | _,_=>none
variable [Glb]
structure Fr (w0:World) (own0:Nat->Nat->Prop) (w:World):Prop where
 os:w.os=w0.os
 tape:w.tape=w0.tape
 output:w.output=w0.output
 size:w0.heap.size<=w.heap.size
 block:∀b,b<w0.heap.size->(∀o,¬own0 b o)->w.heap[b]? = w0.heap[b]?
 cell:∀b o,b<w0.heap.size->¬own0 b o->w.cell? ⟨b,o,none⟩=w0.cell? ⟨b,o,none⟩/\w.frozen? ⟨b,o,none⟩=w0.frozen? ⟨b,o,none⟩
 gl:∀b o v,E5 b o=some v->b<w0.heap.size/\¬own0 b o/\w0.cell? ⟨b,o,none⟩=some v
theorem Fr.glb {w0 w:World}{own0:Nat->Nat->Prop}(h:Fr w0 own0 w){b o:Nat}{v:Value}(hv:E5 b o=some v):w.cell? ⟨b,o,none⟩=some v:=by
 obtain⟨h1,h2,h3⟩:=h.gl b o v hv;rw[(h.cell b o h1 h2).1,h3]
def Eu (w0:World) (own0:Nat->Nat->Prop) (b o:Nat):Prop:=b<w0.heap.size/\¬own0 b o
structure Hp (w0:World) (own0:Nat->Nat->Prop) (pl0:Pls) (g:Lab) (pl:Pls) (roots:List (Nat×Root)) (nx nc fix:Nat) (w:World):Prop where
 fr:Fr w0 own0 w
 lab:∀b o x,g b o=some x->b<w.heap.size/\(w0.heap.size<=b\/own0 b o)/\x.1<nx
 fixed:∀r p,r<fix->pl r p=pl0 r p
 fixle:fix<=nx
 ncle:nc<=nx
 roots:∀r x,get roots r=some x->r<nx/\C8 (Eu w0 own0) w g pl nc r x
structure Rel (N:Nat) (w0:World) (own0:Nat->Nat->Prop) (pl0:Pls) (g:Lab) (pl:Pls) (S:St) (a:Act) (w:World):Prop where
 hp:Hp w0 own0 pl0 g pl S.roots S.next S.next S.fix w
 size:a.tmps.size=N
 defers:a.defers=[]
 env:∀t x,get S.env t=some x->VR pl S.next x (a.tmps.getD t undef)
theorem Win.one {L:Pl}{sz lo n:Nat}{v:Value}(h:Win L sz lo n v):v.oneCell'=true:=by obtain⟨_,_,_,A,rfl,_⟩:=h;rfl
theorem CR.one {pl:Pls}{nx:Nat}{x:C}{v:Value}(h:CR pl nx x v):v.oneCell'=true:=by
 cases x with
 | un=>exact h
 | nl sz=>rw[show v=_ from h];rfl
 | lf x=>rw[h.1];exact h.2
 | rf r p sz lo n=>exact h.2.one
 | pe r p i c=>rw[h.2.2];rfl
 | pb r c=>rw[h.2];rfl
theorem DV.one {L:Pl}{d:D}{v:Value}(h:DV L d v):v.oneCell'=true:=by
 cases d with
 | lf x=>rw[h.1];exact h.2
 | sl sz es=>rw[h.2];rfl
 | hole=>exact h
theorem Zyj {v:Value}(h:v.oneCell'=true):v.cells=#[v]:=by cases v<;>first|rfl|(simp [Value.oneCell']at h)
theorem CR.mono {pl:Pls}{nx nx':Nat}(h:nx<=nx'){x:C}{v:Value}(k:CR pl nx x v):CR pl nx' x v:=by
 cases x<;>first|exact k|exact⟨Kda k.1 h,k.2⟩
theorem AR.mono {pl:Pls}{nx nx':Nat}(h:nx<=nx'){x:A}{v:Value}(k:AR pl nx x v):AR pl nx' x v:=by
 cases x with
 | c x=>exact CR.mono h k
 | ag cs=>obtain⟨vs,rfl,hk⟩:=k;exact⟨vs,rfl,hk.mono fun _ _=>CR.mono h⟩
theorem VR.mono {pl:Pls}{nx nx':Nat}(h:nx<=nx'){x:V}{v:Value}(k:VR pl nx x v):VR pl nx' x v:=by
 cases x with
 | un=>trivial
 | a x=>exact AR.mono h k
 | tp cs=>obtain⟨vs,rfl,hk⟩:=k;exact⟨vs,rfl,hk.mono fun _ _=>AR.mono h⟩
 | fn f cs=>obtain⟨vs,rfl,hk⟩:=k;exact⟨vs,rfl,hk.mono fun _ _=>AR.mono h⟩
 | sb r n=>exact⟨Kda k.1 h,k.2⟩
def D5 (nx:Nat) (pl pl':Pls):Prop:=∀r p,r<nx->pl' r p=pl r p
theorem CR.agree {pl pl':Pls}{nx:Nat}(h:D5 nx pl pl'){x:C}{v:Value}(k:CR pl nx x v):CR pl' nx x v:=by
 cases x with
 | rf r p sz lo n=>exact⟨k.1,by rw[h r p k.1];exact k.2⟩
 | pe r p i c=>exact⟨k.1,by rw[h r p k.1];exact k.2⟩
 | pb r c=>exact⟨k.1,by rw[h r [] k.1];exact k.2⟩
 | _=>exact k
theorem AR.agree {pl pl':Pls}{nx:Nat}(h:D5 nx pl pl'){x:A}{v:Value}(k:AR pl nx x v):AR pl' nx x v:=by
 cases x with
 | c x=>exact CR.agree h k
 | ag cs=>obtain⟨vs,rfl,hk⟩:=k;exact⟨vs,rfl,hk.mono fun _ _=>CR.agree h⟩
theorem VR.agree {pl pl':Pls}{nx:Nat}(h:D5 nx pl pl'){x:V}{v:Value}(k:VR pl nx x v):VR pl' nx x v:=by
 cases x with
 | un=>trivial
 | a x=>exact AR.agree h k
 | tp cs=>obtain⟨vs,rfl,hk⟩:=k;exact⟨vs,rfl,hk.mono fun _ _=>AR.agree h⟩
 | fn f cs=>obtain⟨vs,rfl,hk⟩:=k;exact⟨vs,rfl,hk.mono fun _ _=>AR.agree h⟩
 | sb r n=>exact⟨k.1,by rw[h r [] k.1];exact k.2⟩
end Go.Vs
namespace Go.Vs
variable [Glb]
inductive Opd where
 | t (n:Nat)
 | k (v:V)
 deriving Inhabited
def Zbb (P:Program):Nat->TypeId->List TypeId
 | 0,t=>[t]
 | n+1,t =>
  match P.underlying t with
  | some (.struct fs)=>fs.toList.flatMap fun f=>Zbb P n f.type
  | some (.array k e)=>(List.range k).flatMap fun _=>Zbb P n e
  | _=>[t]
def Yca (P:Program) (t:TypeId):Nat :=
 match P.underlying t with
 | some (.slice e)=>P.cellsOf e
 | _=>0
def Wf (P:Program) (t:TypeId):Value->C
 | .slice none 0 0=>.nl (Yca P t)
 | v=>if v.oneCell' then .lf v else .un
def Wg (P:Program):List TypeId->List Value->List C
 | t::ts,v::vs=>Wf P t v::Wg P ts vs
 | [],v::vs=>Wf P 0 v::Wg P [] vs
 | _,[]=>[]
def Zgp (P:Program) (t:TypeId):Value->V
 | .agg cs=>if cs.all (·.oneCell') then .a (.ag (Wg P (Zbb P 8 t) cs.toList)) else .un
 | v=>if v.oneCell' then .a (.c (Wf P t v)) else .un
theorem Zgo (P:Program) (t:TypeId) (pl:Pls) (nx:Nat) (v:Value) (h:v.oneCell'=true):CR pl nx (Wf P t v) v:=by
 unfold Wf;split
 ·exact rfl
 ·rw[if_pos h];exact⟨rfl,h⟩
theorem Zbl (P:Program) (pl:Pls) (nx:Nat):∀(ts:List TypeId) (l:List Value),(∀v∈l,v.oneCell'=true)->Aa (CR pl nx) (Wg P ts l) l
 | [],[],_=>trivial
 | _::_,[],_=>trivial
 | [],v::l,h=>⟨Zgo P 0 pl nx v (h v (by simp)),Zbl P pl nx [] l fun u hu=>h u (by simp [hu])⟩
 | t::ts,v::l,h=>⟨Zgo P t pl nx v (h v (by simp)),Zbl P pl nx ts l fun u hu=>h u (by simp [hu])⟩
theorem Zyo (P:Program) (t:TypeId) (pl:Pls) (nx:Nat) (v:Value):VR pl nx (Zgp P t v) v:=by
 unfold Zgp;split
 ·rename_i cs;split
  ·rename_i h;exact⟨cs.toList,by simp,Zbl P pl nx _ _ fun u hu=>by simpa using (Kfe.1 h) u (by simpa using hu)⟩
  ·trivial
 ·split
  ·rename_i h;exact Zgo P t pl nx v h
  ·trivial
def trO (P:Program) (t:TypeId):Operand->Option Opd
 | .tmp t=>some (.t t)
 | .const v=>some (.k (Zgp P t v))
 | .global g=>some (.k (.a (.c (.lf (.pointer (some ⟨g,0,none⟩))))))
 | .func f=>some (.k (.fn f []))
def St.opd (S:St):Opd->V
 | .t n=>(get S.env n).getD .un
 | .k v=>v
theorem Bh {N w0 own0 pl0 g pl S a w}(h:Rel N w0 own0 pl0 g pl S a w){P:Program}{ty:TypeId}{x:Operand}{y:Opd}(hx:trO P ty x=some y):VR pl S.next (S.opd y) (a.eval x):=by
 cases x with
 | tmp t =>
  simp only[trO,Ka]at hx;subst hx;simp only[St.opd,Act.eval];cases hg:get S.env t with
  | none=>trivial
  | some v=>exact h.env t v hg
 | const v=>simp only[trO,Ka]at hx;subst hx;exact Zyo P ty pl S.next v
 | global g =>
  simp only[trO,Ka]at hx;subst hx;exact⟨rfl,rfl⟩
 | func f=>simp only[trO,Ka]at hx;subst hx;exact⟨[],rfl,trivial⟩
inductive M where
 | rd
 | rx
 | ow
 | io
 deriving DecidableEq,Inhabited
def Tg (P:Program):List Field->Nat->Bool
 | [],_=>true
 | f :: fs, i => decide (f.name ≠ "_") && decide (f.offset = i) && (match P.underlying f.type with | some (.int .i64) => true | _ => false) && Tg P fs (i + 1)
inductive I where
 | mv (x:Opd)
 | pick (c a b:Opd)
 | load (n:Option Nat) (x:Opd)
 | nilc (x:Opd)
 | bin (op:BinOp) (x y:Opd)
 | beq (neg:Bool) (x y:Opd)
 | aeq (neg:Bool) (n:Nat) (x y:Opd)
 | un (op:UnOp) (x:Opd)
 | conv (k:IntKind) (x:Opd)
 | b2s (x:Opd)
 | slc (sz:Nat) (x:Opd) (lo hi:Option Opd)
 | ssl (x:Opd) (lo hi:Option Opd)
 | fld (off:Nat) (n:Option Nat) (x:Opd)
 | fad (off:Nat) (x:Opd)
 | iad (sz:Nat) (x i:Opd)
 | iaa (len sz:Nat) (x i:Opd)
 | idx (x i:Opd)
 | ixa (len:Nat) (n:Option Nat) (sz:Nat) (x i:Opd)
 | ext (i:Nat) (x:Opd)
 | len (x:Opd)
 | sln (x:Opd)
 | sid (x:Opd)
 | build (zero:List C) (parts:List (Nat×Nat×Opd))
 | mkf (f:FuncId) (caps:List Opd)
 deriving Inhabited
inductive W where
 | alloc (zero:List C)
 | box (x:Opd)
 | lit (sz len:Nat) (zero:List C) (parts:List (Nat×Opd))
 | store (n:Nat) (x v:Opd)
 | s2b (x:Opd)
 | mks (sz bytes:Nat) (zero:List C) (l c:Opd)
 | app (sz bytes:Nat) (zero:List C) (x y:Opd)
 | aps (zero:List C) (x y:Opd)
 | clr (sz:Nat) (zero:List C) (x:Opd)
 | call (f:FuncId) (args:List Opd)
 | calv (f:Opd) (args:List Opd)
 deriving Inhabited
inductive J where
 | rd (i:I)
 | wr (j:W)
 deriving Inhabited
structure GI where
 dst:Option Nat
 op:J
 guard:Option (Nat×Bool)
 deriving Inhabited
def L8:TypeDesc->Bool
 | .struct _|.array _ _=>true
 | _=>false
def J6 (P:Program) (t:TypeId) (v:Value):Option (List C):=if v.cells.all (·.oneCell') then some (Wg P (Zbb P 8 t) v.cells.toList) else none
def H5 (P:Program):List TypeId->List Operand->Option (List Opd)
 | _,[]=>some []
 | [],x::l=>do some ((<- trO P 0 x)::(<- H5 P [] l))
 | t::ts,x::l=>do some ((<- trO P t x)::(<- H5 P ts l))
def Yo (P:Program) (t:TypeId):List (Nat×Operand)->Option (List (Nat×Opd))
 | []=>some []
 | (i,x)::l=>do some ((i,<-trO P t x)::(<- Yo P t l))
def Gk (P:Program):Option Operand->Option (Option Opd)
 | none=>some none
 | some x=>(trO P 0 x).map some
def Q0 (P:Program) (t:TypeId):Option (Option Nat):=do
 let d <- P.underlying t
 let i <- P.info? t
 some (if L8 d then some i.size else none)
def Yn (P:Program) (fs:Array Field):List (Nat×Operand)->Option (List (Nat×Nat×Opd))
 | []=>some []
 | (i,x)::l=>do
  let f <- fs[i]?
  let j <- P.info? f.type
  some ((f.offset,j.size,<-trO P f.type x)::(<- Yn P fs l))
def Ym (P:Program) (e:TypeId) (sz:Nat):List (Nat×Operand)->Option (List (Nat×Nat×Opd))
 | []=>some []
 | (i,x)::l=>do some ((i*sz,sz,<-trO P e x)::(<- Ym P e sz l))
def trR (P:Program) (ty:TypeId):Op->Option I
 | .move x|.assign x=>(trO P ty x).map .mv
 | .pick c a b=>do some (.pick (<- trO P 0 c) (<- trO P ty a) (<- trO P ty b))
 | .build t parts=>do
  let i <- P.info? t
  let z <- i.zero
  match P.underlying t with
  | some (.struct fs)=>if (fs.all fun f=>(P.info? f.type).isSome) then some (.build (<- J6 P t z) (<- Yn P fs parts.toList)) else none
  | some (.array _ e)=>do
   let j <- P.info? e
   some (.build (<- J6 P t z) (<- Ym P e j.size parts.toList))
  | _=>none
 | .load t x=>do some (.load (<- Q0 P t) (<- trO P 0 x))
 | .nilCheck x=>(trO P 0 x).map .nilc
 | .binOp op t x y _ =>
  match P.underlying t,op with
  | some .bool,.eql=>do some (.beq false (<- trO P 0 x) (<- trO P 0 y))
  | some .bool,.neq=>do some (.beq true (<- trO P 0 x) (<- trO P 0 y))
  | some (.struct fs),.eql=>if Tg P fs.toList 0&&(!P.eqGuardType P.depth t&&!P.stoodInHeld t) then do some (.aeq false fs.size (<- trO P 0 x) (<- trO P 0 y)) else none
  | some (.struct fs),.neq=>if Tg P fs.toList 0&&(!P.eqGuardType P.depth t&&!P.stoodInHeld t) then do some (.aeq true fs.size (<- trO P 0 x) (<- trO P 0 y)) else none
  | _,_=>do some (.bin op (<- trO P 0 x) (<- trO P 0 y))
 | .unOp op _ x=>(trO P 0 x).map (.un op)
 | .convert s d x=>do
  let x <- trO P s x
  match P.underlying s,P.underlying d with
  | some (.int _),some (.int k)=>some (.conv k x)
  | some (.slice e),some .string=>match P.underlying e with|some (.int .u8)=>some (.b2s x)|_=>none
  | some .string,some .string=>some (.sid x)
  | _,_=>none
 | .slice t x lo hi none =>
  match P.underlying t with
  | some (.slice e)=>do
   let i <- P.info? e
   some (.slc i.size (<- trO P 0 x) (<- Gk P lo) (<- Gk P hi))
  | some .string=>do some (.ssl (<- trO P 0 x) (<- Gk P lo) (<- Gk P hi))
  | _=>none
 | .fieldAddr s x f =>
  match P.underlying s with
  | some (.struct fs)=>do
   let f <- fs[f]?
   let i <- P.info? f.type
   if i.size=0 then none else some (.fad f.offset (<- trO P 0 x))
  | _=>none
 | .field s x f =>
  match P.underlying s with
  | some (.struct fs)=>do
   let f <- fs[f]?
   some (.fld f.offset (<- Q0 P f.type) (<- trO P 0 x))
  | _=>none
 | .indexAddr t x i =>
  match P.underlying t with
  | some (.slice e)=>do
   let j <- P.info? e
   some (.iad j.size (<- trO P 0 x) (<- trO P 0 i))
  | some (.array n e)=>do
   let j <- P.info? e
   some (.iaa n j.size (<- trO P 0 x) (<- trO P 0 i))
  | _=>none
 | .index t x i =>
  match P.underlying t with
  | some .string=>do some (.idx (<- trO P 0 x) (<- trO P 0 i))
  | some (.array n e)=>do
   let j <- P.info? e
   some (.ixa n (<- Q0 P e) j.size (<- trO P 0 x) (<- trO P 0 i))
  | _=>none
 | .extract t i=>(trO P 0 t).map (.ext i)
 | .makeFunc (.func f) first caps=>if first.size=0 then (H5 P [] caps.toList).map (.mkf f) else none
 | .call { callee:=.builtin .len,args,argTypes } =>
  match args.toList,argTypes.toList with
  | [x],[t]=>match P.underlying t with
   | some (.slice _)=>(trO P t x).map .len
   | some .string=>(trO P t x).map .sln
   | _=>none
  | _,_=>none
 | _=>none
def trW (P:Program):Op->Option W
 | .alloc e=>do
  let i <- P.info? e
  let z <- i.zero
  some (.alloc (<- J6 P e z))
 | .box e x=>(trO P e x).map .box
 | .buildSlice t len parts =>
  match P.underlying t with
  | some (.slice e)=>do
   let i <- P.info? e
   let z <- i.zero
   let zc <- J6 P e z
   if zc.length=i.size/\len*i.size<=2^24/\0<i.size then some (.lit i.size len zc (<- Yo P e parts.toList)) else none
  | _=>none
 | .store t x v=>do
  let i <- P.info? t
  some (.store i.size (<- trO P 0 x) (<- trO P t v))
 | .convert s d x=>do
  let x <- trO P s x
  match P.underlying s,P.underlying d with
  | some .string,some (.slice e)=>match P.underlying e with|some (.int .u8)=>some (.s2b x)|_=>none
  | _,_=>none
 | .makeSlice t l c =>
  match P.underlying t with
  | some (.slice e)=>do
   let i <- P.info? e
   let z <- i.zero
   let zc <- J6 P e z
   if zc.length=i.size/\0<i.size then some (.mks i.size i.bytes zc (<- trO P 0 l) (<- trO P 0 c)) else none
  | _=>none
 | .call { callee:=.builtin .append,args,argTypes } =>
  match args.toList,argTypes.toList with
  | [x,y],[t,u]=>match P.underlying t,P.underlying u with
   | some (.slice e),some (.slice _)=>do
    let i <- P.info? e
    let z <- i.zero
    let zc <- J6 P e z
    if zc.length=i.size/\0<i.size/\0<i.bytes then some (.app i.size i.bytes zc (<- trO P t x) (<- trO P u y)) else none
   | some (.slice e),some .string=>do
    let i <- P.info? e
    let z <- i.zero
    let zc <- J6 P e z
    if zc.length=1/\i.size=1/\i.bytes=1 then some (.aps zc (<- trO P t x) (<- trO P u y)) else none
   | _,_=>none
  | _,_=>none
 | .call { callee:=.builtin .clear,args,argTypes } =>
  match args.toList,argTypes.toList with
  | [x],[t]=>match P.underlying t with
   | some (.slice e)=>do
    let i <- P.info? e
    let z <- i.zero
    let zc <- J6 P e z
    if zc.length=i.size/\0<i.size then some (.clr i.size zc (<- trO P t x)) else none
   | _=>none
  | _,_=>none
 | .call { callee:=.value (.func f),args,argTypes } =>
  match P.funcs[f]? with
  | some fn => if fn.body.isSome && fn.name != "runtime.NumGoroutine" then (H5 P argTypes.toList args.toList).map (.call f) else none
  | none=>none
 | .call { callee:=.value (.tmp t),args,argTypes }=>do some (.calv (.t t) (<- H5 P argTypes.toList args.toList))
 | _=>none
def St.node (S:St) (r:Nat) (p:Ad):Option (Nat×List (List D)) :=
 match get S.roots r with
 | some (.tr sz es)=>Al sz es p
 | some (.im sz es)=>Al sz es p
 | _=>none
def St.bcells (S:St) (r:Nat):Option (List C) :=
 match get S.roots r with
 | some (.bx cs)=>some cs
 | some (.ib cs)=>some cs
 | _=>none
def toC (r:Nat) (p:Ad) (i c:Nat):D->C
 | .lf v=>.lf v
 | .sl sz es=>.rf r (p++[(i,c)]) sz 0 es.length
 | .hole=>.un
def B5 (r:Nat) (p:Ad) (i:Nat):Nat->List D->List C
 | _,[]=>[]
 | c,d::ds=>toC r p i c d::B5 r p i (c+1) ds
def Mp:BinOp->Value->Value->Option Value
 | .shl,.int k a,.int _ b=>if 0<=b then some (.int k (k.wrap (a*2^(min b.toNat k.bits)))) else none
 | .shr,.int k a,.int _ b=>if 0<=b then some (.int k (a.fdiv (2^(min b.toNat k.bits)))) else none
 | .add,.int k a,.int k' b=>if k=k' then some (.int k (k.wrap (a+b))) else none
 | .sub,.int k a,.int k' b=>if k=k' then some (.int k (k.wrap (a-b))) else none
 | .mul,.int k a,.int k' b=>if k=k' then some (.int k (k.wrap (a*b))) else none
 | .quo,.int k a,.int k' b=>if k=k'/\b≠0 then some (.int k (k.wrap (a.tdiv b))) else none
 | .rem,.int k a,.int k' b=>if k=k'/\b≠0 then some (.int k (a.tmod b)) else none
 | .and,.int k a,.int k' b=>if k=k' then some (.int k (k.wrap (BitVec.ofInt k.bits a&&&BitVec.ofInt k.bits b).toNat)) else none
 | .or,.int k a,.int k' b=>if k=k' then some (.int k (k.wrap (BitVec.ofInt k.bits a ||| BitVec.ofInt k.bits b).toNat)) else none
 | .xor,.int k a,.int k' b=>if k=k' then some (.int k (k.wrap (BitVec.ofInt k.bits a ^^^ BitVec.ofInt k.bits b).toNat)) else none
 | .andNot,.int k a,.int k' b=>if k=k' then some (.int k (k.wrap (BitVec.ofInt k.bits a&&&~~~BitVec.ofInt k.bits b).toNat)) else none
 | .eql,.int k a,.int k' b=>if k=k' then some (.bool (a==b)) else none
 | .neq,.int k a,.int k' b=>if k=k' then some (.bool (a != b)) else none
 | .lss,.int k a,.int k' b=>if k=k' then some (.bool (decide (a<b))) else none
 | .leq,.int k a,.int k' b=>if k=k' then some (.bool (decide (a<=b))) else none
 | .gtr,.int k a,.int k' b=>if k=k' then some (.bool (decide (a > b))) else none
 | .geq,.int k a,.int k' b=>if k=k' then some (.bool (decide (a ≥ b))) else none
 | .add,.string a,.string b=>if a.size+b.size<9223372036854775808 then some (.string (a++b)) else none
 | .eql,.string a,.string b=>some (.bool (a.toList==b.toList))
 | .neq,.string a,.string b=>some (.bool (!(a.toList==b.toList)))
 | .lss,.string a,.string b=>some (.bool (Op.bytesLess a.toList b.toList))
 | .leq,.string a,.string b=>some (.bool (Op.bytesLess a.toList b.toList||a.toList==b.toList))
 | .gtr,.string a,.string b=>some (.bool (!(Op.bytesLess a.toList b.toList||a.toList==b.toList)))
 | .geq,.string a,.string b=>some (.bool (!Op.bytesLess a.toList b.toList))
 | _,_,_=>none
theorem Yh8 {P : Program} {op : BinOp} {t : TypeId} {x y : Operand} {u v r : Value} (h : Mp op u v = some r) (w : World) :
    (do eqGuard op t x y u v; binOp op t u v : Sem Value).run P w = .ok r w := by
  unfold Mp at h;split at h
  case h_18 a b =>
    split at h
    · rename_i hk
      simp only [Ka] at h; subst h;simp only [eqGuard, binOp, Op.stringOp, Sem.run_bind];have e : ¬ (((a.size + b.size : Nat) : Int) > IntKind.i64.max) := by rw [show IntKind.i64.max = 9223372036854775807 from rfl]; omega
      rw [if_neg e];simp
    · simp at h
  all_goals first
    | (simp at h; done)
    | (split at h
       · rename_i hk
         simp only [Ka] at h; subst h
         first
          | (obtain ⟨rfl, hb⟩ := hk; simp [eqGuard, binOp, Op.intDiv, hb]; done)
          | (subst hk; simp [eqGuard, binOp, Op.intArith, Op.intBits, Op.intCmp]; done)
          | (simp [eqGuard, binOp, Op.shift, Kmc.2 hk]; done)
       · simp at h)
    | (simp only [Ka] at h; subst h
       simp [eqGuard, binOp, Op.stringOp]; done)
def Ziv:UnOp->Value->Option Value
 | .not,.bool b=>some (.bool (!b))
 | .neg,.int k n=>some (.int k (k.wrap (0-n)))
 | _,_=>none
end Go.Vs
namespace Go.Vs
variable [Glb]
def C1 (roots:List (Nat×Root)) (r:Nat) (p:Ad):Option (Nat×List (List D)) :=
 match get roots r with
 | some (.tr sz es)=>Al sz es p
 | some (.im sz es)=>Al sz es p
 | _=>none
theorem Ot (S:St) (r:Nat) (p:Ad):S.node r p=C1 S.roots r p:=rfl
def V7 (roots:List (Nat×Root)) (r:Nat):Option (List C) :=
 match get roots r with
 | some (.bx cs)=>some cs
 | some (.ib cs)=>some cs
 | _=>none
section
variable {w0:World} {own0:Nat->Nat->Prop} {pl0:Pls} {g:Lab} {pl:Pls} {roots:List (Nat×Root)} {nx fix:Nat} {w:World}
theorem Hp.node {nc:Nat}(h:Hp w0 own0 pl0 g pl roots nx nc fix w){r:Nat}{p:Ad}{n:Nat×List (List D)}(hn:C1 roots r p=some n) :
  r<nx/\NodeC w pl r p n.1 n.2:=by
 unfold C1 at hn;split at hn
 ·rename_i sz es hg;obtain⟨a,b⟩:=h.roots r _ hg;exact⟨a,(b p n hn).1⟩
 ·rename_i sz es hg;obtain⟨a,b⟩:=h.roots r _ hg;exact⟨a,(b p n hn).1⟩
 ·simp at hn
theorem Zr1 {r:Nat}{p:Ad}{n:Nat×List (List D)}(hn:C1 roots r p=some n) (i c:Nat) :
  C1 roots r (p++[(i,c)])=match (n.2[i]?).bind (·[c]?) with|some (.sl sz' es')=>some (sz',es')|_=>none:=by
 unfold C1 at hn ⊢;cases hg:get roots r with
 | none=>simp [hg]at hn
 | some x =>
  cases x with
  | tr sz es=>simp only[hg]at hn ⊢;exact Zc8 hn i c
  | im sz es=>simp only[hg]at hn ⊢;exact Zc8 hn i c
  | bx cs=>simp [hg]at hn
  | ib cs=>simp [hg]at hn
theorem Hp.toC_ok (h:Hp w0 own0 pl0 g pl roots nx nx fix w){r:Nat}{p:Ad}{n:Nat×List (List D)}(hn:C1 roots r p=some n){i c:Nat}{e:List D}{d:D}
  (he:n.2[i]? = some e) (hd:e[c]? = some d) {v:Value} (hv:DV (pl r (p++[(i,c)])) d v):CR pl nx (toC r p i c d) v:=by
 cases d with
 | lf x=>exact hv
 | hole=>exact hv
 | sl sz es =>
  have hs:=Zr1 hn i c;simp only[he,Koa,hd]at hs;obtain⟨hr,hc⟩:=h.node hs;refine⟨hr,hv.1,hc.nil,by simpa using hc.le,_, ?_,fun _=>rfl⟩;rw[hv.2];simp [hdr,Pl.base]
theorem Hp.cell (h:Hp w0 own0 pl0 g pl roots nx nx fix w){r:Nat}{p:Ad}{n:Nat×List (List D)}(hn:C1 roots r p=some n){i c:Nat}{e:List D}{d:D}
  (he:n.2[i]? = some e) (hd:e[c]? = some d):∃v,w.cell? ⟨(pl r p).b,(pl r p).off+(i*(pl r p).sz+c),none⟩=some v/\CR pl nx (toC r p i c d) v:=by
 obtain⟨_,hc⟩:=h.node hn;obtain⟨v,hv,hk⟩:=hc.cells i e c d he hd;exact⟨v,by rw[hc.szp];exact hv,h.toC_ok hn he hd hk⟩
theorem Hp.cellsFrom (h:Hp w0 own0 pl0 g pl roots nx nx fix w){r:Nat}{p:Ad}{n:Nat×List (List D)}(hn:C1 roots r p=some n){i:Nat}{e:List D}
  (he:n.2[i]? = some e):∀(ds:List D) (c:Nat),(∀k d,ds[k]? = some d->e[c+k]? = some d) ->
  ∃vs:List Value,vs.length=ds.length/\(∀j v,vs[j]? = some v->w.cell? ⟨(pl r p).b,(pl r p).off+(i*(pl r p).sz+(c+j)),none⟩=some v)/\Aa (CR pl nx) (B5 r p i c ds) vs
 | [],c,_=>⟨[],rfl,by simp,trivial⟩
 | d::ds,c,hk=>by
  obtain⟨v,hv,hc⟩:=h.cell hn he (hk 0 d rfl);obtain⟨vs,hl,hvs,ha⟩:=Hp.cellsFrom h hn he ds (c+1) (fun k x hx=>by rw[show c+1+k=c+(k+1) by omega];exact hk (k+1) x (by simpa using hx));refine⟨v::vs,by simp [hl], ?_,hc,ha⟩;intro j u hj;cases j with
  | zero=>simp at hj;subst hj;exact hv
  | succ j=>have:=hvs j u (by simpa using hj);rwa [show c+1+j=c+(j+1) by omega]at this
theorem Hp.box (h:Hp w0 own0 pl0 g pl roots nx nx fix w){r:Nat}{cs:List C}(hn:V7 roots r=some cs){c:Nat}{x:C}(hx:cs[c]? = some x) :
  ∃v,w.cell? ⟨(pl r []).b,(pl r []).off+c,none⟩=some v/\CR pl nx x v:=by
 unfold V7 at hn;split at hn
 ·rename_i cs' hg;simp only[Ka]at hn;subst hn;obtain⟨v,a,b,_⟩:=(h.roots r _ hg).2 c x hx;exact⟨v,a,b⟩
 ·rename_i cs' hg;simp only[Ka]at hn;subst hn;obtain⟨v,a,b,_⟩:=(h.roots r _ hg).2 c x hx;exact⟨v,a,b⟩
 ·simp at hn
theorem Hp.boxFrom (h:Hp w0 own0 pl0 g pl roots nx nx fix w){r:Nat}{cs:List C}(hn:V7 roots r=some cs):∀(xs:List C) (c:Nat),(∀k x,xs[k]? = some x->cs[c+k]? = some x) ->
  ∃vs:List Value,vs.length=xs.length/\(∀j v,vs[j]? = some v->w.cell? ⟨(pl r []).b,(pl r []).off+(c+j),none⟩=some v)/\Aa (CR pl nx) xs vs
 | [],c,_=>⟨[],rfl,by simp,trivial⟩
 | x::xs,c,hk=>by
  obtain⟨v,hv,hc⟩:=h.box hn (hk 0 x rfl);obtain⟨vs,hl,hvs,ha⟩:=Hp.boxFrom h hn xs (c+1) (fun k x hx=>by rw[show c+1+k=c+(k+1) by omega];exact hk (k+1) x (by simpa using hx));refine⟨v::vs,by simp [hl], ?_,hc,ha⟩;intro j u hj;cases j with
  | zero=>simp at hj;subst hj;exact hv
  | succ j=>have:=hvs j u (by simpa using hj);rwa [show c+1+j=c+(j+1) by omega]at this
end
theorem K1 {α:Type}{l xs:List α}{c n:Nat}(h:xs=(l.drop c).take n):∀(k:Nat) (x:α),xs[k]? = some x->l[c+k]? = some x:=by
 intro k x hx;subst h;rw[Ksa]at hx;split at hx
 ·simpa using hx
 ·simp at hx
def P0:List (List D)->Option (List UInt8)
 | []=>some []
 | [.lf (.int .u8 z)]::l=>(P0 l).map (UInt8.ofNat z.toNat::·)
 | _=>none
def P2:V->Option (List C)
 | .a (.c x)=>some [x]
 | .a (.ag cs)=>some cs
 | _=>none
def F8 (S:St):List C->List (Nat×Nat×Opd)->Option (List C)
 | cs,[]=>some cs
 | cs,(off,sz,x)::rest =>
  match P2 (S.opd x) with
  | some ys=>if ys.length=sz/\off+sz<=cs.length then F8 S (cs.take off++(ys++cs.drop (off+sz))) rest else none
  | none=>none
def Jb:List V->Option (List A)
 | []=>some []
 | .a x::l=>(Jb l).map (x::·)
 | _=>none
def ev (S:St) (K:V->Prop):I->Prop
 | .mv x=>K (S.opd x)
 | .pick c a b=>match S.opd c with
  | .a (.c (.lf (.bool t)))=>(t=true->K (S.opd a))/\(t=false->K (S.opd b))
  | _=>False
 | .load none x=>match S.opd x with
  | .a (.c (.pe r p i c))=>∃d,((S.node r p).bind fun n=>(n.2[i]?).bind (·[c]?))=some d/\K (.a (.c (toC r p i c d)))
  | .a (.c (.pb r c))=>∃x,((S.bcells r).bind (·[c]?))=some x/\K (.a (.c x))
  | .a (.c (.lf (.pointer (some ⟨b,o,none⟩))))=>∃v,E5 b o=some v/\K (.a (.c (.lf v)))
  | _=>False
 | .load (some m) x=>match S.opd x with
  | .a (.c (.pe r p i c))=>∃e,((S.node r p).bind fun n=>n.2[i]?)=some e/\c+m<=e.length/\K (.a (.ag (B5 r p i c ((e.drop c).take m))))
  | .a (.c (.pb r c))=>∃cs,S.bcells r=some cs/\c+m<=cs.length/\K (.a (.ag ((cs.drop c).take m)))
  | .a (.c (.lf (.pointer (some ⟨b,o,none⟩))))=>∃vs,Qk b o m=some vs/\K (.a (.ag (vs.map .lf)))
  | _=>False
 | .nilc x=>match S.opd x with
  | .a (.c (.pe r p i c))=>K (.a (.c (.pe r p i c)))
  | .a (.c (.pb r c))=>K (.a (.c (.pb r c)))
  | _=>False
 | .bin op x y=>match S.opd x,S.opd y with
  | .a (.c (.lf u)),.a (.c (.lf v))=>∃r,Mp op u v=some r/\K (.a (.c (.lf r)))
  | _,_=>False
 | .beq neg x y=>match S.opd x,S.opd y with
  | .a (.c (.lf (.bool u))),.a (.c (.lf (.bool v)))=>K (.a (.c (.lf (.bool (if neg then u != v else u==v)))))
  | _,_=>False
 | .aeq neg n x y=>match S.opd x,S.opd y with
  | .a (.ag cs),.a (.ag ds)=>∃us vs:List Int,cs=us.map (fun z=>C.lf (.int .i64 z))/\ds=vs.map (fun z=>C.lf (.int .i64 z))/\us.length=n/\vs.length=n/\K (.a (.c (.lf (.bool (if neg then !(us==vs) else us==vs)))))
  | _,_=>False
 | .un op x=>match S.opd x with
  | .a (.c (.lf u))=>∃r,Ziv op u=some r/\K (.a (.c (.lf r)))
  | _=>False
 | .conv k x=>match S.opd x with
  | .a (.c (.lf (.int _ z)))=>K (.a (.c (.lf (.int k (k.wrap z)))))
  | _=>False
 | .b2s x=>match S.opd x with
  | .a (.c (.rf r p 1 lo n))=>∃l,((S.node r p).bind fun m=>if lo+n<=m.2.length then P0 ((m.2.drop lo).take n) else none)=some l/\K (.a (.c (.lf (.string ⟨l.toArray⟩))))
  | .a (.c (.nl _))=>K (.a (.c (.lf (.string .empty))))
  | _=>False
 | .slc z0 x lo hi=>match S.opd x,lo.map S.opd,hi.map S.opd with
  | .a (.c (.rf r p sz l0 n)),some (.a (.c (.lf (.int _ l)))),some (.a (.c (.lf (.int _ h))))=>z0=sz/\(0<=l/\l<=h/\h<=n)/\K (.a (.c (.rf r p sz (l0+l.toNat) (h.toNat-l.toNat))))
  | .a (.c (.rf r p sz l0 n)),some (.a (.c (.lf (.int _ l)))),none=>z0=sz/\(0<=l/\l<=n)/\K (.a (.c (.rf r p sz (l0+l.toNat) (n-l.toNat))))
  | .a (.c (.rf r p sz l0 n)),none,some (.a (.c (.lf (.int _ h))))=>z0=sz/\(0<=h/\h<=n)/\K (.a (.c (.rf r p sz l0 h.toNat)))
  | .a (.c (.rf r p sz l0 n)),none,none=>K (.a (.c (.rf r p sz l0 n)))
  | _,_,_=>False
 | .ssl x lo hi=>match S.opd x,lo.map S.opd,hi.map S.opd with
  | .a (.c (.lf (.string s))),some (.a (.c (.lf (.int _ l)))),some (.a (.c (.lf (.int _ h))))=>(0<=l/\l<=h/\h<=s.size)/\K (.a (.c (.lf (.string (s.extract l.toNat h.toNat)))))
  | .a (.c (.lf (.string s))),some (.a (.c (.lf (.int _ l)))),none=>(0<=l/\l<=s.size)/\K (.a (.c (.lf (.string (s.extract l.toNat s.size)))))
  | .a (.c (.lf (.string s))),none,some (.a (.c (.lf (.int _ h))))=>(0<=h/\h<=s.size)/\K (.a (.c (.lf (.string (s.extract 0 h.toNat)))))
  | _,_,_=>False
 | .fld off none x=>match S.opd x with
  | .a (.ag cs)=>∃y,cs[off]? = some y/\K (.a (.c y))
  | _=>False
 | .fld off (some m) x=>match S.opd x with
  | .a (.ag cs)=>off+m<=cs.length/\K (.a (.ag ((cs.drop off).take m)))
  | _=>False
 | .fad off x=>match S.opd x with
  | .a (.c (.pe r p i c))=>K (.a (.c (.pe r p i (c+off))))
  | .a (.c (.pb r c))=>K (.a (.c (.pb r (c+off))))
  | .a (.c (.lf (.pointer (some ⟨b,o,none⟩))))=>K (.a (.c (.lf (.pointer (some ⟨b,o+off,none⟩)))))
  | _=>False
 | .iad sz x i=>match S.opd x,S.opd i with
  | .a (.c (.rf r p sz' lo n)),.a (.c (.lf (.int _ z)))=>sz'=sz/\(0<=z/\z<n)/\K (.a (.c (.pe r p (lo+z.toNat) 0)))
  | _,_=>False
 | .iaa len sz x i=>match S.opd x,S.opd i with
  | .a (.c (.pb r c)),.a (.c (.lf (.int _ z)))=>(0<=z/\z<len)/\K (.a (.c (.pb r (c+z.toNat*sz))))
  | .a (.c (.lf (.pointer (some ⟨b,o,none⟩)))),.a (.c (.lf (.int _ z)))=>(0<=z/\z<len)/\K (.a (.c (.lf (.pointer (some ⟨b,o+z.toNat*sz,none⟩)))))
  | _,_=>False
 | .idx x i=>match S.opd x,S.opd i with
  | .a (.c (.lf (.string s))),.a (.c (.lf (.int _ z)))=>0<=z/\∃b:UInt8,s[z.toNat]? = some b/\K (.a (.c (.lf (.int .u8 b.toNat))))
  | _,_=>False
 | .ixa len none sz x i=>match S.opd x,S.opd i with
  | .a (.ag cs),.a (.c (.lf (.int _ z)))=>(0<=z/\z<len)/\∃y,cs[z.toNat*sz]? = some y/\K (.a (.c y))
  | _,_=>False
 | .ext i x=>match S.opd x with
  | .tp xs=>∃y,xs[i]? = some y/\K (.a y)
  | _=>False
 | .len x=>match S.opd x with
  | .a (.c (.rf _ _ _ _ n))=>K (.a (.c (.lf (.int .i64 n))))
  | .a (.c (.nl _))=>K (.a (.c (.lf (.int .i64 0))))
  | _=>False
 | .sid x=>match S.opd x with
  | .a (.c (.lf (.string s)))=>K (.a (.c (.lf (.string s))))
  | _=>False
 | .sln x=>match S.opd x with
  | .a (.c (.lf (.string s)))=>K (.a (.c (.lf (.int .i64 s.size))))
  | _=>False
 | .build zero parts=>∃cs,F8 S zero parts=some cs/\K (.a (.ag cs))
 | .mkf f caps=>∃as,Jb (caps.map S.opd)=some as/\K (.fn f as)
 | _=>False
end Go.Vs
namespace Go.Vs
variable [Glb]
variable {P:Program} {N:Nat} {w0:World} {own0:Nat->Nat->Prop} {pl0:Pls} {g:Lab} {pl:Pls} {S:St} {a:Act} {w:World} {K:V->Prop}
def Fn (P:Program) (pl:Pls) (nx:Nat) (K:V->Prop) (s:Sem Value) (w:World):Prop:=∃v x,s.run P w=.ok v w/\VR pl nx x v/\K x
theorem Ct {nx:Nat}{s:Sem Value}{x:C}{v:Value}(hK:K (.a (.c x))) (hr:s.run P w=.ok v w) (hc:CR pl nx x v):Fn P pl nx K s w:=⟨v,.a (.c x),hr,hc,hK⟩
theorem So {nx:Nat}{s:Sem Value}{cs:List C}{vs:List Value}(hK:K (.a (.ag cs))) (hr:s.run P w=.ok (.agg vs.toArray) w) (hc:Aa (CR pl nx) cs vs):Fn P pl nx K s w:=⟨_,.a (.ag cs),hr,⟨vs,rfl,hc⟩,hK⟩
theorem Be {nx:Nat}{x:C}{v:Value}(h:VR pl nx (.a (.c x)) v):CR pl nx x v:=h
theorem Zp3 {b o:Nat}{v:Value}(h:E5 b o=some v):v.oneCell'=true:=by
 unfold E5 at h;split at h
 ·split at h
  ·simp only[Ka]at h;subst h;rfl
  ·simp at h
 ·simp at h
theorem Zp4 {pl:Pls}{nx:Nat}{w0:World}{own0:Nat->Nat->Prop}{w:World}(hf:Fr w0 own0 w):∀(b o m:Nat){vs:List Value},Qk b o m=some vs->vs.length=m/\(∀k v,vs[k]? = some v->w.cell? ⟨b,o+k,none⟩=some v)/\Aa (CR pl nx) (vs.map .lf) vs
 | b,o,0,vs,h=>by
  simp only[Qk,Ka]at h;subst h;exact⟨rfl,by simp,trivial⟩
 | b,o,m+1,vs,h=>by
  simp only[Qk]at h;split at h
  ·rename_i v vs' h1 h2;simp only[Ka]at h;subst h;obtain⟨a,c,d⟩:=Zp4 hf b (o+1) m h2;refine⟨by simp [a], ?_,⟨rfl,Zp3 h1⟩,d⟩;intro k u hk;cases k with
   | zero=>simp only[Kt,Ka]at hk;subst hk;exact hf.glb h1
   | succ k=>rw[show o+(k+1)=o+1+k by omega];exact c k u (by simpa using hk)
  ·simp at h
theorem Zzg (hR:Rel N w0 own0 pl0 g pl S a w){t:TypeId}{x:Operand}{ty:TypeId}{i:I}(ht:trR P ty (.load t x)=some i) (h:ev S K i) :
  Fn P pl S.next K (Instr.loadAt t (a.eval x)) w:=by
 simp only[trR,Q0,Ki,Kf,Ka]at ht;obtain⟨sz,⟨d,hd,j,hj,rfl⟩,y,hy,rfl⟩:=ht;have ho:=Bh hR hy;by_cases hag:L8 d=true
 ·simp only[hag,if_true]at h;have hA:∀A:Addr,Instr.loadAt t (.pointer (some A))=(do pure (.agg (<- loadCells A (<- sizeOf t))):Sem Value)\/True:=fun _=>.inr trivial;have hrun:∀(A:Addr) (vs:List Value),vs.length=j.size->(∀k v,vs[k]? = some v->w.cell? (A.add k)=some v) ->
    (Instr.loadAt t (.pointer (some A))).run P w=.ok (.agg vs.toArray) w:=by
   intro A vs hl hc;have h1:=run_loadCells_list (P:=P) w A vs hc;have:(isAgg t).run P w=.ok true w:=by
    simp only[isAgg,Sem.run_bind,run_underlying hd,Result.andThen];cases d<;>simp_all [L8]
   rw[hl]at h1;simp [Instr.loadAt,Instr.sureAddr,loadVar,this,sizeOf,typeInfo,hj,h1]
  simp only[ev]at h;split at h
  ·rename_i r p i c he;rw[he]at ho;obtain⟨hr,hnil,hv⟩:=Be ho;obtain⟨e,hE,hle,hK⟩:=h;rw[Ot]at hE;simp only[Kf]at hE;obtain⟨n,hn,he⟩:=hE;obtain⟨vs,hl,hvs,hall⟩:=hR.hp.cellsFrom hn he ((e.drop c).take j.size) c (K1 rfl);refine So hK ?_ hall;rw[hv];refine hrun _ vs (by rw[hl];simp;omega) fun k v hk=>?_;have:=hvs k v hk;rw[Addr.add_lit];rwa [Khb,Khb]
  ·rename_i r c he;rw[he]at ho;obtain⟨hr,hv⟩:=Be ho;obtain⟨cs,hcs,hle,hK⟩:=h;obtain⟨vs,hl,hvs,hall⟩:=hR.hp.boxFrom (r:=r) (cs:=cs) hcs ((cs.drop c).take j.size) c (K1 rfl);refine So hK ?_ hall;rw[hv];refine hrun _ vs (by rw[hl];simp;omega) fun k v hk=>?_;have:=hvs k v hk;rw[Addr.add_lit];rwa [Khb]
  ·rename_i b o he;rw[he]at ho;obtain⟨hv,_⟩:=Be ho;obtain⟨vs,hvs,hK⟩:=h;obtain⟨g1,g2,g3⟩:=Zp4 (pl:=pl) (nx:=S.next) hR.hp.fr _ _ _ hvs;refine So hK ?_ g3;rw[hv];exact hrun _ vs g1 fun k v hk=>by rw[Addr.add_lit];exact g2 k v hk
  ·exact h.elim
 ·simp only[hag]at h;have hrun:∀(A:Addr) (v:Value),w.cell? A=some v->(Instr.loadAt t (.pointer (some A))).run P w=.ok v w:=by
   intro A v hc;have:(isAgg t).run P w=.ok false w:=by
    simp only[isAgg,Sem.run_bind,run_underlying hd,Result.andThen];cases d<;>simp_all [L8]
   simp [Instr.loadAt,Instr.sureAddr,loadVar,this,hc]
  simp only[Kka,if_false,ev]at h;split at h
  ·rename_i r p i c he;rw[he]at ho;obtain⟨hr,hnil,hv⟩:=Be ho;obtain⟨d,hE,hK⟩:=h;rw[Ot]at hE;simp only[Kf]at hE;obtain⟨n,hn,e,he,hd'⟩:=hE;obtain⟨v,hcell,hcr⟩:=hR.hp.cell hn he hd';exact Ct hK (by rw[hv];exact hrun _ _ hcell) hcr
  ·rename_i r c he;rw[he]at ho;obtain⟨hr,hv⟩:=Be ho;obtain⟨y,hE,hK⟩:=h;simp only[Kf]at hE;obtain⟨cs,hcs,hy⟩:=hE;obtain⟨v,hcell,hcr⟩:=hR.hp.box (r:=r) hcs hy;exact Ct hK (by rw[hv];exact hrun _ _ hcell) hcr
  ·rename_i b o he;rw[he]at ho;obtain⟨hv,_⟩:=Be ho;obtain⟨v,hg,hK⟩:=h;exact Ct hK (by rw[hv];exact hrun _ _ (hR.hp.fr.glb hg)) ⟨rfl,Zp3 hg⟩
  ·exact h.elim
theorem Zto:∀(fs:List Field) (i:Nat) (us vs:List Int) (d:Nat),Tg P fs i=true->us.length=i+fs.length->vs.length=i+fs.length->(Op.eqFields (d+1) (us.map (Value.int .i64)).toArray (vs.map (Value.int .i64)).toArray fs).run P w=.ok (us.drop i==vs.drop i) w
 | [],i,us,vs,d,_,hu,hv=>by
  rw[Kge (by simpa using Nat.le_of_eq hu),Kge (by simpa using Nat.le_of_eq hv)];rfl
 | f::fs,i,us,vs,d,h,hu,hv=>by
  simp only[Tg,Ke,decide_eq_true_eq]at h;obtain⟨⟨⟨h1,h2⟩,h3⟩,h4⟩:=h;have hty:P.underlying f.type=some (.int .i64):=by
   split at h3
   ·assumption
   ·cases h3
  have hpk:P.plainKey f.type=true:=by unfold Program.plainKey;rw[hty]
  simp only[Kh]at hu hv;have hiu:i<us.length:=by omega
  have hiv:i<vs.length:=by omega
  have e1:((us.map (Value.int .i64)).toArray)[f.offset]? = some (.int .i64 us[i]):=by rw[h2];simp [hiu]
  have e2:((vs.map (Value.int .i64)).toArray)[f.offset]? = some (.int .i64 vs[i]):=by rw[h2];simp [hiv]
  have ih:=Zto fs (i+1) us vs d h4 (by omega) (by omega);rw[Kzb hiu,Kzb hiv];simp only[Op.eqFields,if_pos h1,Sem.run_bind,run_part_plain w hpk e1,run_part_plain w hpk e2,Result.andThen_ok,run_equalIn_int w d f.type .i64 .i64 _ _ hty,List.cons_beq_cons];cases hb:(us[i]==vs[i]) with
  | true=>simp only[Kkd,Kka,if_false,Knc];exact ih
  | false=>simp only[Ktd,if_true,Kud,Sem.run_pure]
theorem W3 {pl:Pls}{nx:Nat}:∀{us:List Int}{vs:List Value},Aa (CR pl nx) (us.map (fun z=>C.lf (.int .i64 z))) vs->vs=us.map (Value.int .i64)
 | [],[],_=>rfl
 | [],_::_,h=>h.elim
 | _::_,[],h=>h.elim
 | z::us,v::vs,h=>by
  have:=h.1.1;rw[Kc,<-W3 h.2,this]
theorem Ztl {t:TypeId}{fs:Array Field}{xs ys:Operand}{us vs:List Int}(hu:P.underlying t=some (.struct fs)) (hk:(Tg P fs.toList 0&&(!P.eqGuardType P.depth t&&!P.stoodInHeld t))=true) (h1:us.length=fs.size) (h2:vs.length=fs.size) :
  (do eqGuard .eql t xs ys (.agg (us.map (Value.int .i64)).toArray) (.agg (vs.map (Value.int .i64)).toArray);binOp .eql t (.agg (us.map (Value.int .i64)).toArray) (.agg (vs.map (Value.int .i64)).toArray):Sem Value).run P w=.ok (.bool (us==vs)) w /\
  (do eqGuard .neq t xs ys (.agg (us.map (Value.int .i64)).toArray) (.agg (vs.map (Value.int .i64)).toArray);binOp .neq t (.agg (us.map (Value.int .i64)).toArray) (.agg (vs.map (Value.int .i64)).toArray):Sem Value).run P w=.ok (.bool (!(us==vs))) w:=by
 simp only[Ke,Kjb]at hk;obtain⟨k1,k2,k3⟩:=hk;have hf:P.fieldsOf t=fs:=by unfold Program.fieldsOf;rw[hu]
 have he:(Op.equalIn 10000 t (.agg (us.map (Value.int .i64)).toArray) (.agg (vs.map (Value.int .i64)).toArray)).run P w=.ok (us==vs) w:=by
  rw[run_equalIn_struct w 9999 t _ _ (by rw[hf];exact hu) k3,hf];have:=Zto (P:=P) (w:=w) fs.toList 0 us vs 9998 k1 (by simpa using h1) (by simpa using h2);simpa using this
 constructor
 ·simp only[Sem.run_bind,run_eqGuard_agg w .eql t xs ys _ _ k2,Result.andThen_ok,run_eql_struct,he]
 ·simp only[Sem.run_bind,run_eqGuard_agg w .neq t xs ys _ _ k2,Result.andThen_ok,run_neq_struct,he]
theorem Zy7 (hR : Rel N w0 own0 pl0 g pl S a w) {op : BinOp} {t t' : TypeId} {x y : Operand} {ty : TypeId} {i : I} (ht : trR P ty (.binOp op t x y t') = some i) (h : ev S K i) :
    Fn P pl S.next K (do eqGuard op t x y (a.eval x) (a.eval y); binOp op t (a.eval x) (a.eval y)) w := by
  simp only [trR] at ht;split at ht
  · rename_i hu
    simp only [Ki, Kf, Ka] at ht;obtain ⟨x', hx, y', hy, rfl⟩ := ht;have h1 := Bh hR hx;have h2 := Bh hR hy;simp only [ev] at h;split at h
    · rename_i u v he hf
      rw [he] at h1; rw [hf] at h2;obtain ⟨rfl', _⟩ := Be h1;obtain ⟨rfl'', _⟩ := Be h2;rw [rfl', rfl''];exact Ct h (by simp [eqGuard, binOp, run_equal_bool w t u v hu]) ⟨rfl, rfl⟩
    · exact h.elim
  · rename_i hu
    simp only [Ki, Kf, Ka] at ht;obtain ⟨x', hx, y', hy, rfl⟩ := ht;have h1 := Bh hR hx;have h2 := Bh hR hy;simp only [ev] at h;split at h
    · rename_i u v he hf
      rw [he] at h1; rw [hf] at h2;obtain ⟨rfl', _⟩ := Be h1;obtain ⟨rfl'', _⟩ := Be h2;rw [rfl', rfl''];exact Ct h (by simp [eqGuard, binOp, run_equal_bool w t u v hu, bne]) ⟨rfl, rfl⟩
    · exact h.elim
  · rename_i fs hu
    split at ht
    · rename_i hk
      simp only [Ki, Kf, Ka] at ht;obtain ⟨x', hx, y', hy, rfl⟩ := ht;have h1 := Bh hR hx;have h2 := Bh hR hy;simp only [ev] at h;split at h
      · rename_i cs ds he hf
        rw [he] at h1; rw [hf] at h2;obtain ⟨us, vs, rfl, rfl, l1, l2, hK⟩ := h;obtain ⟨zs, e1, q1⟩ := h1;obtain ⟨ws, e2, q2⟩ := h2;rw [W3 q1] at e1;rw [W3 q2] at e2;rw [e1, e2];exact Ct hK (Ztl hu hk l1 l2).1 ⟨rfl, rfl⟩
      · exact h.elim
    · cases ht
  · rename_i fs hu
    split at ht
    · rename_i hk
      simp only [Ki, Kf, Ka] at ht;obtain ⟨x', hx, y', hy, rfl⟩ := ht;have h1 := Bh hR hx;have h2 := Bh hR hy;simp only [ev] at h;split at h
      · rename_i cs ds he hf
        rw [he] at h1; rw [hf] at h2;obtain ⟨us, vs, rfl, rfl, l1, l2, hK⟩ := h;obtain ⟨zs, e1, q1⟩ := h1;obtain ⟨ws, e2, q2⟩ := h2;rw [W3 q1] at e1;rw [W3 q2] at e2;rw [e1, e2];exact Ct hK (Ztl hu hk l1 l2).2 ⟨rfl, rfl⟩
      · exact h.elim
    · cases ht
  simp only [Ki, Kf, Ka] at ht;obtain ⟨x', hx, y', hy, rfl⟩ := ht;have h1 := Bh hR hx;have h2 := Bh hR hy;simp only [ev] at h;split at h
  · rename_i u v he hf
    rw [he] at h1; rw [hf] at h2;obtain ⟨rfl', _⟩ := Be h1;obtain ⟨rfl'', _⟩ := Be h2;obtain ⟨r, hr, hK⟩ := h;rw [rfl', rfl''];refine Ct hK (Yh8 hr w) ⟨rfl, ?_⟩;unfold Mp at hr;split at hr <;> first
      | (simp at hr; done)
      | (simp only [Ka] at hr; subst hr; rfl)
      | (split at hr
         · simp only [Ka] at hr; subst hr; rfl
         · simp at hr)
  · exact h.elim
theorem Zzk (hR:Rel N w0 own0 pl0 g pl S a w){op:UnOp}{t:TypeId}{x:Operand}{ty:TypeId}{i:I}(ht:trR P ty (.unOp op t x)=some i) (h:ev S K i) :
  Fn P pl S.next K (Op.unary op (a.eval x)) w:=by
 simp only[trR,Ku]at ht;obtain⟨x',hx,rfl⟩:=ht;have h1:=Bh hR hx;simp only[ev]at h;split at h
 ·rename_i u he;rw[he]at h1;obtain⟨e1,_⟩:=Be h1;obtain⟨r,hr,hK⟩:=h;rw[e1];unfold Ziv at hr;split at hr
  ·simp only[Ka]at hr;subst hr;exact Ct hK (by simp [Op.unary]) ⟨rfl,rfl⟩
  ·simp only[Ka]at hr;subst hr;exact Ct hK (v:=.int _ _) (by simp only[Op.unary,Op.intArith];rfl) ⟨rfl,rfl⟩
  ·simp at hr
 ·exact h.elim
theorem Zn9 (hR:Rel N w0 own0 pl0 g pl S a w){x:Operand}{y:Opd}{tx:TypeId}(hx:trO P tx x=some y) (h:ev S K (.mv y)) :
  Fn P pl S.next K (pure (a.eval x)) w:=⟨_,_,rfl,Bh hR hx,h⟩
theorem Zzi (hR:Rel N w0 own0 pl0 g pl S a w){c x y:Operand}{ty:TypeId}{i:I}(ht:trR P ty (.pick c x y)=some i) (h:ev S K i) :
  Fn P pl S.next K (do pure (if <- asBool (a.eval c) then a.eval x else a.eval y)) w:=by
 simp only[trR,Ki,Kf,Ka]at ht;obtain⟨c',hc,x',hx,y',hy,rfl⟩:=ht;have h0:=Bh hR hc;simp only[ev]at h;split at h
 ·rename_i t he;rw[he]at h0;obtain⟨e1,_⟩:=Be h0;rw[e1];cases t with
  | true=>exact⟨_,_,by simp [asBool],Bh hR hx,h.1 rfl⟩
  | false=>exact⟨_,_,by simp [asBool],Bh hR hy,h.2 rfl⟩
 ·exact h.elim
theorem Zzc (hR:Rel N w0 own0 pl0 g pl S a w){t:TypeId}{x:Operand}{f:Nat}{ty:TypeId}{i:I}(ht:trR P ty (.field t x f)=some i) (h:ev S K i) :
  Fn P pl S.next K (Instr.field t (a.eval x) f) w:=by
 simp only[trR]at ht;split at ht
 ·rename_i fs hfs;simp only[Q0,Ki,Kf,Ka]at ht;obtain⟨fd,hfd,sz,⟨d,hd,j,hj,rfl⟩,y,hy,rfl⟩:=ht;have ho:=Bh hR hy;by_cases hag:L8 d=true
  ·simp only[hag,if_true,ev]at h;split at h
   ·rename_i cs he;rw[he]at ho;obtain⟨vs,hv,hall⟩:=ho;obtain⟨hle,hK⟩:=h;have hisa:(isAgg fd.type).run P w=.ok true w:=by
     simp only[isAgg,Sem.run_bind,run_underlying hd,Result.andThen];cases d<;>simp_all [L8]
    have hl:=hall.length;refine So (vs:=(vs.drop fd.offset).take j.size) hK ?_ ?_
    ·rw[hv];simp [Instr.field,run_underlying hfs,hfd,asAgg,part,hisa,sizeOf,typeInfo,hj]
    ·refine Aa.of_get (by simp [hl]) fun k x u hx hu=>?_;have hx':=K1 rfl k x hx;have hu':=K1 rfl k u hu;obtain⟨u',e1,e2⟩:=hall.get _ _ hx';rw[hu']at e1;simp only[Ka]at e1;subst e1;exact e2
   ·exact h.elim
  ·simp only[hag,Kka,if_false,ev]at h;split at h
   ·rename_i cs he;rw[he]at ho;obtain⟨vs,hv,hall⟩:=ho;obtain⟨z,hz,hK⟩:=h;have hisa:(isAgg fd.type).run P w=.ok false w:=by
     simp only[isAgg,Sem.run_bind,run_underlying hd,Result.andThen];cases d<;>simp_all [L8]
    obtain⟨u,hu,hc⟩:=hall.get _ _ hz;refine Ct hK (v:=u) ?_ hc;rw[hv];simp [Instr.field,run_underlying hfs,hfd,asAgg,part,hisa,hu]
   ·exact h.elim
 ·simp at ht
theorem Zzb (hR:Rel N w0 own0 pl0 g pl S a w){t:TypeId}{x:Operand}{f:Nat}{ty:TypeId}{i:I}(ht:trR P ty (.fieldAddr t x f)=some i) (h:ev S K i) :
  Fn P pl S.next K (Instr.fieldAt t (a.eval x) f) w:=by
 simp only[trR]at ht;split at ht
 ·rename_i fs hfs;simp only[Ki,Kf]at ht;obtain⟨fd,hfd,j,hj,ht⟩:=ht;split at ht
  ·simp at ht
  ·rename_i hz;simp only[Kf,Ka]at ht;obtain⟨y,hy,rfl⟩:=ht;have ho:=Bh hR hy;have hrun:∀A:Addr,(Instr.fieldAt t (.pointer (some A)) f).run P w=.ok (.pointer (some (A.add fd.offset))) w:=by
    intro A;simp [Instr.fieldAt,run_underlying hfs,hfd,Instr.sureAddr,fieldPlace,sizeOf,typeInfo,hj,hz]
   simp only[ev]at h;split at h
   ·rename_i r p i c he;rw[he]at ho;obtain⟨hr,hnil,hv⟩:=Be ho;exact Ct h (by rw[hv];exact hrun _) ⟨hr,hnil,by rw[Addr.add_lit];simp [Khb]⟩
   ·rename_i r c he;rw[he]at ho;obtain⟨hr,hv⟩:=Be ho;exact Ct h (by rw[hv];exact hrun _) ⟨hr,by rw[Addr.add_lit];simp [Khb]⟩
   ·rename_i b o he;rw[he]at ho;obtain⟨hv,_⟩:=Be ho;exact Ct h (by rw[hv];exact hrun _) ⟨by rw[Addr.add_lit],rfl⟩
   ·exact h.elim
 ·simp at ht
theorem Zzh (hR:Rel N w0 own0 pl0 g pl S a w){x:Operand}{y:Opd}{tx:TypeId}(hx:trO P tx x=some y) (h:ev S K (.nilc y)) :
  ∃A,a.eval x=.pointer (some A)/\∃z,VR pl S.next z (a.eval x)/\K z:=by
 have ho:=Bh hR hx;simp only[ev]at h;split at h
 ·rename_i r p i c he;rw[he]at ho;exact⟨_,(Be ho).2.2,_,ho,h⟩
 ·rename_i r c he;rw[he]at ho;exact⟨_,(Be ho).2,_,ho,h⟩
 ·exact h.elim
end Go.Vs
namespace Go.Vs
variable [Glb]
variable {P:Program} {N:Nat} {w0:World} {own0:Nat->Nat->Prop} {pl0:Pls} {g:Lab} {pl:Pls} {S:St} {a:Act} {w:World} {K:V->Prop}
theorem Zzd (hR:Rel N w0 own0 pl0 g pl S a w){t:TypeId}{x y:Operand}{ty:TypeId}{i:I}(ht:trR P ty (.indexAddr t x y)=some i) (h:ev S K i) :
  Fn P pl S.next K (Instr.indexAt t (a.eval x) (a.eval y)) w:=by
 simp only[trR]at ht;split at ht
 ·rename_i e hu;simp only[Ki,Kf,Ka]at ht;obtain⟨j,hj,x',hx,y',hy,rfl⟩:=ht;have h1:=Bh hR hx;have h2:=Bh hR hy;simp only[ev]at h;split at h
  ·rename_i r p sz' lo n k z he hf;rw[he]at h1;rw[hf]at h2;obtain⟨hr,hsz,hnil,hle,A,hv,hA⟩:=Be h1;obtain⟨hz,_⟩:=Be h2;obtain⟨rfl,⟨h0,hn⟩,hK⟩:=h;have hlt:lo<(pl r p).cap:=by omega
   have hnn:(pl r p).nil=false:=by
    cases hq:(pl r p).nil with
    | false=>rfl
    | true=>have:=hnil hq;omega
   have hA':=hA (.inl hlt);rw[hnn]at hA';simp only[Kka,if_false]at hA';refine Ct hK (v:=.pointer (some ⟨(pl r p).b,(pl r p).off+((lo+z.toNat)*(pl r p).sz+0),none⟩)) ?_ ⟨hr,hnn,rfl⟩;rw[hv,hz,hA'];simp only[Instr.indexAt,asIntOf,Sem.run_bind,Sem.run_pure,Result.andThen_ok,run_underlying hu];simp [h0,hn,sizeOf,typeInfo,hj,Addr.add_lit,hsz,Kxa,Khb]
  ·exact h.elim
 ·rename_i n e hu;simp only[Ki,Kf,Ka]at ht;obtain⟨j,hj,x',hx,y',hy,rfl⟩:=ht;have h1:=Bh hR hx;have h2:=Bh hR hy;simp only[ev]at h;split at h
  ·rename_i r c k z he hf;rw[he]at h1;rw[hf]at h2;obtain⟨hr,hv⟩:=Be h1;obtain⟨hz,_⟩:=Be h2;obtain⟨⟨h0,hn⟩,hK⟩:=h;refine Ct hK (v:=.pointer (some ⟨(pl r []).b,(pl r []).off+(c+z.toNat*j.size),none⟩)) ?_ ⟨hr,rfl⟩;rw[hv,hz];simp only[Instr.indexAt,asIntOf,Sem.run_bind,Sem.run_pure,Result.andThen_ok,run_underlying hu];simp [h0,hn,sizeOf,typeInfo,hj,Addr.add_lit,Khb,Instr.sureAddr]
  ·rename_i b o k z he hf;rw[he]at h1;rw[hf]at h2;obtain⟨hv,_⟩:=Be h1;obtain⟨hz,_⟩:=Be h2;obtain⟨⟨h0,hn⟩,hK⟩:=h;refine Ct hK (v:=.pointer (some ⟨b,o+z.toNat*j.size,none⟩)) ?_ ⟨rfl,rfl⟩;rw[hv,hz];simp only[Instr.indexAt,asIntOf,Sem.run_bind,Sem.run_pure,Result.andThen_ok,run_underlying hu];simp [h0,hn,sizeOf,typeInfo,hj,Addr.add_lit,Khb,Instr.sureAddr]
  ·exact h.elim
 ·simp at ht
theorem Zze (hR:Rel N w0 own0 pl0 g pl S a w){t:TypeId}{x y:Operand}{ty:TypeId}{i:I}(ht:trR P ty (.index t x y)=some i) (h:ev S K i) :
  Fn P pl S.next K (Instr.index t (a.eval x) (a.eval y)) w:=by
 simp only[trR]at ht;split at ht
 ·rename_i hu;simp only[Ki,Kf,Ka]at ht;obtain⟨x',hx,y',hy,rfl⟩:=ht;have h1:=Bh hR hx;have h2:=Bh hR hy;simp only[ev]at h;split at h
  ·rename_i s k z he hf;rw[he]at h1;rw[hf]at h2;obtain⟨hv,_⟩:=Be h1;obtain⟨hz,_⟩:=Be h2;obtain⟨h0,b,hb,hK⟩:=h;refine Ct hK (v:=.int .u8 b.toNat) ?_ ⟨rfl,rfl⟩;rw[hv,hz];simp only[Instr.index,asIntOf,Sem.run_bind,Sem.run_pure,Result.andThen_ok,run_underlying hu];rw[if_pos h0,hb];rfl
  ·exact h.elim
 ·rename_i n e hu;simp only[Q0,Ki,Kf,Ka]at ht;obtain⟨j,hj,sz,⟨d,hd,j',hj',rfl⟩,x',hx,y',hy,rfl⟩:=ht;rw[hj]at hj';simp only[Ka]at hj';subst hj';have h1:=Bh hR hx;have h2:=Bh hR hy;cases hag:L8 d with
  | true=>simp only[hag,if_true,ev]at h
  | false =>
   simp only[hag,Kka,if_false,ev]at h;split at h
   ·rename_i cs k z he hf;rw[he]at h1;rw[hf]at h2;obtain⟨vs,hv,hall⟩:=h1;obtain⟨hz,_⟩:=Be h2;obtain⟨⟨h0,hn⟩,u,hu',hK⟩:=h;obtain⟨v,hv',hc⟩:=hall.get _ _ hu';have hisa:(isAgg e).run P w=.ok false w:=by
     simp only[isAgg,Sem.run_bind,run_underlying hd,Result.andThen];cases d<;>simp_all [L8]
    refine Ct hK (v:=v) ?_ hc;rw[hv,hz];simp only[Instr.index,asIntOf,Sem.run_bind,Sem.run_pure,Result.andThen_ok,run_underlying hu];rw[if_pos ⟨h0,hn⟩];simp [part,hisa,sizeOf,typeInfo,hj,hv']
   ·exact h.elim
 ·simp at ht
theorem Zza (hR:Rel N w0 own0 pl0 g pl S a w){x:Operand}{n:Nat}{ty:TypeId}{i:I}(ht:trR P ty (.extract x n)=some i) (h:ev S K i) :
  Fn P pl S.next K (Instr.extract (a.eval x) n) w:=by
 simp only[trR,Ku]at ht;obtain⟨x',hx,rfl⟩:=ht;have h1:=Bh hR hx;simp only[ev]at h;split at h
 ·rename_i xs he;rw[he]at h1;obtain⟨vs,hv,hall⟩:=h1;obtain⟨y,hy,hK⟩:=h;obtain⟨v,hv',hc⟩:=hall.get _ _ hy;refine⟨v,.a y, ?_,hc,hK⟩;rw[hv];simp [Instr.extract,hv']
 ·exact h.elim
theorem Zzf (hR:Rel N w0 own0 pl0 g pl S a w){args:Array Operand}{tys:Array TypeId}{ty' ty:TypeId}{i:I}(ht:trR P ty (.call { callee:=.builtin .len,args,argTypes:=tys })=some i) (h:ev S K i) :
  Fn P pl S.next K (Builtin.len_ tys ty' (args.map a.eval)) w:=by
 simp only[trR]at ht;split at ht
 ·rename_i x t hxs hts;have hargs:args=#[x]:=by apply Array.ext';simpa using hxs
  have htys:tys=#[t]:=by apply Array.ext';simpa using hts
  subst hargs;subst htys;split at ht
  ·rename_i e hu;simp only[Ku]at ht;obtain⟨x',hx,rfl⟩:=ht;have h1:=Bh hR hx;simp only[ev]at h;split at h
   ·rename_i r p sz lo n he;rw[he]at h1;obtain⟨hr,hsz,hnil,hle,A,hv,hA⟩:=Be h1;refine Ct h (v:=.int .i64 n) ?_ ⟨rfl,rfl⟩;simp [Builtin.len_,run_underlying hu,hv,goInt]
   ·rename_i he;rw[he]at h1;have hv:a.eval x=.slice none 0 0:=Be h1;refine Ct h (v:=.int .i64 0) ?_ ⟨rfl,rfl⟩;simp [Builtin.len_,run_underlying hu,hv,goInt]
   ·exact h.elim
  ·rename_i hu;simp only[Ku]at ht;obtain⟨x',hx,rfl⟩:=ht;have h1:=Bh hR hx;simp only[ev]at h;split at h
   ·rename_i s he;rw[he]at h1;have hv:=(Be h1).1;refine Ct h (v:=.int .i64 s.size) ?_ ⟨rfl,rfl⟩;simp [Builtin.len_,run_underlying hu,hv,goInt]
   ·exact h.elim
  ·simp at ht
 ·simp at ht
theorem O1 {k:IntKind}{z:Int}{y:Nat}{code:BoundsCode}(h0:0<=z) (h1:z<=y) (w:World):(Instr.sliceBound (.int k z) y code).run P w=.ok z.toNat w:=by
 simp [Instr.sliceBound,asIntOf,h0,h1]
theorem Zl1 {L:Pl}{sz lo n l h:Nat}{A:Option Addr}(hsz:L.sz=sz) (hnil:L.nil=true->L.cap=0) (hle:lo+n<=L.cap)
  (hA:lo<L.cap\/lo=0->A=if L.nil then L.raw else some ⟨L.b,L.off+lo*L.sz,none⟩) (hl:l<=h) (hh:h<=n) :
  Win L sz (lo+l) (h-l) (sliced A l h (L.cap-lo) sz):=by
 refine⟨hsz,hnil,by omega,_,by unfold sliced;rw[Nat.sub_sub], ?_⟩;intro hc;by_cases hcl:L.cap-lo=l
 ·rw[if_pos hcl];have hl0:l=0:=by omega
  subst hl0;exact hA (by omega)
 ·rw[if_neg hcl,hA (by omega)];cases hq:L.nil with
  | true=>have:=hnil hq;omega
  | false=>simp [Addr.add_lit,hsz,Kxa,Khb]
theorem Zzj (hR:Rel N w0 own0 pl0 g pl S a w){t:TypeId}{x:Operand}{lo hi mx:Option Operand}{ty:TypeId}{i:I}(ht:trR P ty (.slice t x lo hi mx)=some i) (h:ev S K i) :
  Fn P pl S.next K (Instr.sliceAt t (a.eval x) (lo.map a.eval) (hi.map a.eval) (mx.map a.eval)) w:=by
 cases mx with
 | some m=>simp [trR]at ht
 | none =>
 simp only[trR]at ht;split at ht
 ·rename_i e hu;simp only[Ki,Kf,Ka]at ht;obtain⟨j,hj,x',hx,lo',hlo,hi',hhi,rfl⟩:=ht;have h1:=Bh hR hx;have hrun:∀(A:Option Addr) (n cap:Nat) (l q m:Nat) (lo hi:Option Value),(Instr.sliceBounds true n cap lo hi none).run P w=.ok (l,q,m) w ->
    (Instr.sliceAt t (.slice A n cap) lo hi none).run P w=.ok (sliced A l q m j.size) w:=by
   intro A n cap l q m lo hi hb;simp only[Instr.sliceAt,Sem.run_bind,run_underlying hu,Result.andThen_ok,Instr.slice,hb];simp [sizeOf,typeInfo,hj,sliced]
  simp only[Krb];cases lo with
  | none =>
   simp only[Gk,Ka]at hlo;subst hlo;cases hi with
   | none =>
    simp only[Gk,Ka]at hhi;subst hhi;simp only[ev,Krb]at h ⊢;split at h
    ·simp_all
    ·simp_all
    ·simp_all
    ·rename_i r p sz l0 n he _ _;rw[he]at h1;obtain⟨hr,hsz,hnil,hle,A,hv,hA⟩:=Be h1;refine Ct h (v:=.slice A n ((pl r p).cap-l0)) ?_ ⟨hr,hsz,hnil,hle,A,rfl,hA⟩;rw[hv,hrun A n _ 0 n ((pl r p).cap-l0) none none (by simp [Instr.sliceBounds])];have:sliced A 0 n ((pl r p).cap-l0) j.size=.slice A n ((pl r p).cap-l0):=by
      unfold sliced;simp only[Nat.zero_mul,Koc];cases A<;>simp [Addr.add]
     rw[this]
    ·exact h.elim
   | some hi =>
    simp only[Gk,Ku]at hhi;obtain⟨y,hy,rfl⟩:=hhi;have h2:=Bh hR hy;simp only[ev,Krb,Kha]at h ⊢;split at h
    ·simp_all
    ·simp_all
    ·rename_i r p sz l0 n k z he _ hz;rw[he]at h1;simp only[Ka]at hz;rw[hz]at h2;obtain⟨hr,hsz,hnil,hle,A,hv,hA⟩:=Be h1;obtain⟨hzv,_⟩:=Be h2;obtain⟨hsz',⟨g0,g1⟩,hK⟩:=h;refine Ct hK (v:=sliced A 0 z.toNat ((pl r p).cap-l0) sz) ?_ ⟨hr,by have:=Zl1 (l:=0) (h:=z.toNat) hsz hnil hle hA (by omega) (by omega);simpa using this⟩;rw[hv,hzv,hrun A n _ 0 z.toNat ((pl r p).cap-l0) none _ (by simp [Instr.sliceBounds,O1 g0 (show z<=(((pl r p).cap-l0:Nat):Int) by omega)]),hsz']
    ·simp_all
    ·exact h.elim
  | some lo =>
   simp only[Gk,Ku]at hlo;obtain⟨ylo,hylo,rfl⟩:=hlo;have h3:=Bh hR hylo;cases hi with
   | none =>
    simp only[Gk,Ka]at hhi;subst hhi;simp only[ev,Krb,Kha]at h ⊢;split at h
    ·simp_all
    ·rename_i r p sz l0 n k z he hz _;rw[he]at h1;simp only[Ka]at hz;rw[hz]at h3;obtain⟨hr,hsz,hnil,hle,A,hv,hA⟩:=Be h1;obtain⟨hzv,_⟩:=Be h3;obtain⟨hsz',⟨g0,g1⟩,hK⟩:=h;refine Ct hK (v:=sliced A z.toNat n ((pl r p).cap-l0) sz) ?_ ⟨hr,Zl1 hsz hnil hle hA (by omega) (by omega)⟩;rw[hv,hzv,hrun A n _ z.toNat n ((pl r p).cap-l0) _ none (by simp [Instr.sliceBounds,O1 g0 g1]),hsz']
    ·simp_all
    ·simp_all
    ·exact h.elim
   | some hi =>
    simp only[Gk,Ku]at hhi;obtain⟨y,hy,rfl⟩:=hhi;have h2:=Bh hR hy;simp only[ev,Kha]at h ⊢;split at h
    ·rename_i r p sz l0 n k z k' z' he hz hz2;rw[he]at h1;simp only[Ka]at hz hz2;rw[hz]at h3;rw[hz2]at h2;obtain⟨hr,hsz,hnil,hle,A,hv,hA⟩:=Be h1;obtain⟨hzv,_⟩:=Be h3;obtain⟨hzv2,_⟩:=Be h2;obtain⟨hsz',⟨g0,g1,g2⟩,hK⟩:=h;refine Ct hK (v:=sliced A z.toNat z'.toNat ((pl r p).cap-l0) sz) ?_ ⟨hr,Zl1 hsz hnil hle hA (by omega) (by omega)⟩;rw[hv,hzv,hzv2,hrun A n _ z.toNat z'.toNat ((pl r p).cap-l0) _ _ (by simp [Instr.sliceBounds,O1 (show 0<=z' by omega) (show z'<=(((pl r p).cap-l0:Nat):Int) by omega),O1 g0 (show z<=((z'.toNat:Nat):Int) by omega)]),hsz']
    ·simp_all
    ·simp_all
    ·simp_all
    ·exact h.elim
 ·rename_i hu;simp only[Ki,Kf,Ka]at ht;obtain⟨x',hx,lo',hlo,hi',hhi,rfl⟩:=ht;have h1:=Bh hR hx;have hrun:∀(s:ByteArray) (l q m:Nat) (lo hi:Option Value),(Instr.sliceBounds false s.size s.size lo hi none).run P w=.ok (l,q,m) w ->
    (Instr.sliceAt t (.string s) lo hi none).run P w=.ok (.string (s.extract l q)) w:=by
   intro s l q m lo hi hb;simp only[Instr.sliceAt,Sem.run_bind,run_underlying hu,Result.andThen_ok,Instr.slice];simp [hb]
  simp only[Krb];cases lo with
  | none =>
   simp only[Gk,Ka]at hlo;subst hlo;cases hi with
   | none =>
    simp only[Gk,Ka]at hhi;subst hhi;simp only[ev,Krb]at h ⊢;split at h
    ·simp_all
    ·simp_all
    ·simp_all
    ·exact h.elim
   | some hi =>
    simp only[Gk,Ku]at hhi;obtain⟨y,hy,rfl⟩:=hhi;have h2:=Bh hR hy;simp only[ev,Krb,Kha]at h ⊢;split at h
    ·simp_all
    ·simp_all
    ·rename_i s k z he _ hz;rw[he]at h1;simp only[Ka]at hz;rw[hz]at h2;obtain⟨hv,_⟩:=Be h1;obtain⟨hzv,_⟩:=Be h2;obtain⟨⟨g0,g1⟩,hK⟩:=h;refine Ct hK (v:=.string (s.extract 0 z.toNat)) ?_ ⟨rfl,rfl⟩;rw[hv,hzv,hrun s 0 z.toNat s.size none _ (by simp [Instr.sliceBounds,O1 g0 g1])]
    ·exact h.elim
  | some lo =>
   simp only[Gk,Ku]at hlo;obtain⟨ylo,hylo,rfl⟩:=hlo;have h3:=Bh hR hylo;cases hi with
   | none =>
    simp only[Gk,Ka]at hhi;subst hhi;simp only[ev,Krb,Kha]at h ⊢;split at h
    ·simp_all
    ·rename_i s k z he hz _;rw[he]at h1;simp only[Ka]at hz;rw[hz]at h3;obtain⟨hv,_⟩:=Be h1;obtain⟨hzv,_⟩:=Be h3;obtain⟨⟨g0,g1⟩,hK⟩:=h;refine Ct hK (v:=.string (s.extract z.toNat s.size)) ?_ ⟨rfl,rfl⟩;rw[hv,hzv,hrun s z.toNat s.size s.size _ none (by simp [Instr.sliceBounds,O1 g0 g1])]
    ·simp_all
    ·exact h.elim
   | some hi =>
    simp only[Gk,Ku]at hhi;obtain⟨y,hy,rfl⟩:=hhi;have h2:=Bh hR hy;simp only[ev,Kha]at h ⊢;split at h
    ·rename_i s k z k' z' he hz hz2;rw[he]at h1;simp only[Ka]at hz hz2;rw[hz]at h3;rw[hz2]at h2;obtain⟨hv,_⟩:=Be h1;obtain⟨hzv,_⟩:=Be h3;obtain⟨hzv2,_⟩:=Be h2;obtain⟨⟨g0,g1,g2⟩,hK⟩:=h;refine Ct hK (v:=.string (s.extract z.toNat z'.toNat)) ?_ ⟨rfl,rfl⟩;rw[hv,hzv,hzv2,hrun s z.toNat z'.toNat s.size _ _ (by simp [Instr.sliceBounds,O1 (show 0<=z' by omega) g2,O1 g0 (show z<=((z'.toNat:Nat):Int) by omega)])]
    ·simp_all
    ·simp_all
    ·exact h.elim
 ·simp at ht
theorem Zpv:∀(l:List UInt8) (b:ByteArray),l.foldl (fun r n=>r.push n) b=⟨(b.data.toList++l).toArray⟩
 | [],b=>by simp
 | x::l,b=>by rw[Kqd,Zpv l];simp [ByteArray.push]
theorem Zm6 {w:World}:∀{es:List (List D)}{l:List UInt8}{b off:Nat},P0 es=some l ->
  (∀i e c d,es[i]? = some e->e[c]? = some d->∃v,w.cell? ⟨b,off+(i+c),none⟩=some v/\(∀x,d=.lf x->v=x)) ->
  ∃ns:List Int,l=ns.map (fun n=>UInt8.ofNat n.toNat)/\ns.length=es.length/\∀j v,(ns.map (Value.int .u8))[j]? = some v->w.cell? ⟨b,off+j,none⟩=some v
 | [],l,b,off,h,_=>by simp only[P0,Ka]at h;subst h;exact⟨[],rfl,rfl,by simp⟩
 | e::es,l,b,off,h,hc=>by
  unfold P0 at h;split at h
  ·rename_i heq;cases heq
  ·rename_i z es' heq;cases heq;simp only[Ku]at h;obtain⟨l',hl',rfl⟩:=h;obtain⟨ns,hl,hlen,hn⟩:=Zm6 (b:=b) (off:=off+1) hl' (fun i e c d he hd=>by
    have:=hc (i+1) e c d (by simpa using he) hd
    rwa [show off+1+(i+c)=off+(i+1+c) by omega])
   refine⟨z::ns,by simp [hl],by simp [hlen], ?_⟩;intro j v hj;cases j with
   | zero =>
    simp at hj;subst hj;obtain⟨u,hu,hx⟩:=hc 0 _ 0 (.lf (.int .u8 z)) rfl rfl;rw[hx _ rfl]at hu;exact hu
   | succ j =>
    have:=hn j v (by simpa using hj)
    rwa [show off+1+j=off+(j+1) by omega]at this
  ·simp at h
theorem Zy9 (hR:Rel N w0 own0 pl0 g pl S a w){s d:TypeId}{x:Operand}{ty:TypeId}{i:I}(ht:trR P ty (.convert s d x)=some i) (h:ev S K i) :
  Fn P pl S.next K (convert s d (a.eval x)) w:=by
 simp only[trR,Ki,Kf]at ht;obtain⟨x',hx,ht⟩:=ht;have h1:=Bh hR hx;split at ht
 ·rename_i k' k hs hd;simp only[Ka]at ht;subst ht;simp only[ev]at h;split at h
  ·rename_i kk z he;rw[he]at h1;obtain⟨hv,_⟩:=Be h1;refine Ct h (v:=.int k (k.wrap z)) ?_ ⟨rfl,rfl⟩;rw[hv];simp [convert,run_underlying hs,run_underlying hd,Conv.intToInt]
  ·exact h.elim
 ·rename_i e hs hd;split at ht
  ·rename_i he8;simp only[Ka]at ht;subst ht;simp only[ev]at h;have hru:∀v,(convert s d v).run P w=(match v with|.slice A n c=>(Conv.bytesToString (.slice A n c)).run P w|_=>(convert s d v).run P w):=by
    intro v;split
    ·simp [convert,run_underlying hs,run_underlying hd,run_underlying he8]
    ·rfl
   split at h
   ·rename_i r p lo n he;rw[he]at h1;obtain⟨hr,hsz,hnil,hle,A,hv,hA⟩:=Be h1;obtain⟨l,hl,hK⟩:=h;simp only[Ot,Kf]at hl;obtain⟨m,hm,hl⟩:=hl;split at hl
    ·rename_i hlen;obtain⟨hr',hc⟩:=hR.hp.node hm;have hm1:m.1=1:=by rw[<-hc.szp,hsz]
     obtain⟨ns,hns,hnl,hcell⟩:=Zm6 (w:=w) (b:=(pl r p).b) (off:=(pl r p).off+lo) hl (fun i e c dd hi hcc=>by
      have hi':=K1 rfl i e hi;obtain⟨v,hv,hdv⟩:=hc.cells (lo+i) e c dd hi' hcc;rw[hm1]at hv;refine⟨v,by rw[Kld]at hv;rwa [Khb,<-Khb lo], ?_⟩;rintro x rfl;exact hdv.1)
     have hnl':ns.length=n:=by rw[hnl];simp;omega
     refine Ct hK (v:=.string ⟨l.toArray⟩) ?_ ⟨rfl,rfl⟩;rw[hv,hru];simp only;cases A with
     | none =>
      have hn0:n=0:=by
       by_cases h0:n=0
       ·exact h0
       ·exfalso;have:=hA (.inl (by omega));cases hq:(pl r p).nil with
        | true=>have:=hnil hq;omega
        | false=>rw[hq]at this;simp at this
      subst hn0;have:ns=[]:=Krc.1 hnl';subst this;rw[hns];simp [Conv.bytesToString,ByteArray.empty,ByteArray.emptyWithCapacity];rfl
     | some A =>
      have hload:(loadCells A n).run P w=.ok (ns.map (Value.int .u8)).toArray w:=by
       by_cases h0:n=0
       ·subst h0;have:ns=[]:=Krc.1 hnl';subst this;simp [loadCells,loadCellsFrom]
       ·have hA':=hA (.inl (by omega));have hnn:(pl r p).nil=false:=by
         cases hq:(pl r p).nil with
         | false=>rfl
         | true=>have:=hnil hq;omega
        rw[hnn]at hA';simp only[Kka,if_false,Ka]at hA';have:=run_loadCells_list (P:=P) w A (ns.map (Value.int .u8)) (fun j v hj=>by
         rw[hA',Addr.add_lit,hsz,Kld];exact hcell j v hj)
        rwa [Kn,hnl']at this
      rw[run_bytesToString w A n _ ns hload,hns];rw[show (ns.foldl (fun r n=>r.push (UInt8.ofNat n.toNat)) ByteArray.empty)=((ns.map fun n=>UInt8.ofNat n.toNat).foldl (fun r n=>r.push n) ByteArray.empty) by rw[List.foldl_map],Zpv];simp [ByteArray.empty,ByteArray.emptyWithCapacity];rfl
    ·simp at hl
   ·rename_i he;rw[he]at h1;have hv:a.eval x=.slice none 0 0:=Be h1;refine Ct h (v:=.string .empty) ?_ ⟨rfl,rfl⟩;rw[hv,hru];simp [Conv.bytesToString]
   ·exact h.elim
  ·simp at ht
 ·rename_i hs hd;simp only[Ka]at ht;subst ht;simp only[ev]at h;split at h
  ·rename_i s' he;rw[he]at h1;obtain⟨hv,_⟩:=Be h1;refine Ct h (v:=.string s') ?_ ⟨rfl,rfl⟩;rw[hv];simp [convert,run_underlying hs,run_underlying hd]
  ·exact h.elim
 ·simp at ht
theorem Zbe {nx:Nat}{x:V}{v:Value}{ys:List C}(h:VR pl nx x v) (hy:P2 x=some ys):Aa (CR pl nx) ys v.cells.toList:=by
 unfold P2 at hy;split at hy
 ·simp only[Ka]at hy;subst hy;rw[Zyj (CR.one (Be h))];exact⟨Be h,trivial⟩
 ·simp only[Ka]at hy;subst hy;obtain⟨vs,rfl,hall⟩:=h;simpa [Value.cells] using hall
 ·simp at hy
theorem Zuk (off:Nat):∀(vs:List Value) (k:Nat) (cs:Array Value),off+k+vs.length<=cs.size ->
  ((vs.zipIdx k).foldl (fun cs (c,j)=>cs.setIfInBounds (off+j) c) cs).toList=cs.toList.take (off+k)++(vs++cs.toList.drop (off+k+vs.length))
 | [],k,cs,h=>by simp
 | v::vs,k,cs,h=>by
  simp only[Kh]at h;rw[List.zipIdx_cons,Kqd];rw[Zuk off vs (k+1) _ (by simp;omega)];simp only[Array.toList_setIfInBounds,Kh];apply Ksc;intro j;simp only[List.getElem?_append,Kta,Khe,Kqb,Ksa,Kya,Kva,List.getElem?_cons,Kh];by_cases h1:j<off+k
  ·simp [h1,show j<min (off+(k+1)) cs.size by omega,show j<min (off+k) cs.size by omega,show j<off+(k+1) by omega,show ¬off+k=j by omega]
  ·by_cases h2:j=off+k
   ·subst h2;simp [show off+k<min (off+(k+1)) cs.size by omega,show off+k<cs.size by omega,show ¬(off+k<min (off+k) cs.size) by omega,show off+k-min (off+k) cs.size=0 by omega,show off+k<off+(k+1) by omega]
   ·have e1:¬j<min (off+(k+1)) cs.size:=by omega
    have e2:¬j<min (off+k) cs.size:=by omega
    have e3:min (off+(k+1)) cs.size=off+k+1:=by omega
    have e4:min (off+k) cs.size=off+k:=by omega
    simp only[e1,e2,if_false];rw[e3,e4];have e5:j-(off+k)-1=j-(off+k+1):=by omega
    by_cases h3:j-(off+k+1)<vs.length
    ·have h4:j-(off+k)<vs.length+1:=by omega
     simp [h3,h4,show ¬(j-(off+k)=0) by omega,e5]
    ·have h4:¬j-(off+k)<vs.length+1:=by omega
     simp only[h3,h4,if_false];have e6:off+(k+1)+vs.length+(j-(off+k+1)-vs.length)=j:=by omega
     have e7:off+k+(vs.length+1)+(j-(off+k)-(vs.length+1))=j:=by omega
     rw[e6,e7,if_neg (by omega)]
theorem Aa.append {α β:Type}{R:α->β->Prop}:∀{as:List α}{bs:List β}{cs:List α}{ds:List β},Aa R as bs->Aa R cs ds->Aa R (as++cs) (bs++ds)
 | [],[],_,_,_,h=>h
 | _::_,_::_,_,_,h,k=>⟨h.1,Aa.append h.2 k⟩
 | [],_::_,_,_,h,_=>h.elim
 | _::_,[],_,_,h,_=>h.elim
theorem Aa.take {α β:Type}{R:α->β->Prop}:∀(n:Nat){as:List α}{bs:List β},Aa R as bs->Aa R (as.take n) (bs.take n)
 | 0,_,_,_=>by simp [Aa]
 | n+1,[],[],_=>trivial
 | n+1,_::_,_::_,h=>⟨h.1,Aa.take n h.2⟩
 | n+1,[],_::_,h=>h.elim
 | n+1,_::_,[],h=>h.elim
theorem Aa.drop {α β:Type}{R:α->β->Prop}:∀(n:Nat){as:List α}{bs:List β},Aa R as bs->Aa R (as.drop n) (bs.drop n)
 | 0,_,_,h=>h
 | n+1,[],[],_=>trivial
 | n+1,_::_,_::_,h=>Aa.drop n h.2
 | n+1,[],_::_,h=>h.elim
 | n+1,_::_,[],h=>h.elim
theorem Zb4 (hR:Rel N w0 own0 pl0 g pl S a w) (place:Nat->Option (Nat×Nat)):∀(parts:List (Nat×Operand)) (offs:List (Nat×Nat×Opd)) (cs:List C) (vs:Array Value) (out:List C),
  Aa (fun (p:Nat×Operand) (o:Nat×Nat×Opd)=>place p.1=some (o.1,o.2.1)/\∃tx,trO P tx p.2=some o.2.2) parts offs ->
  Aa (CR pl S.next) cs vs.toList->F8 S cs offs=some out ->
  ∃arr,Instr.fill place vs (parts.map fun p=>(p.1,a.eval p.2))=some arr/\Aa (CR pl S.next) out arr.toList
 | [],[],cs,vs,out,_,hall,hf=>by simp only[F8,Ka]at hf;subst hf;exact⟨vs,rfl,hall⟩
 | (i,x)::parts,(off,sz,y)::offs,cs,vs,out,hp,hall,hf=>by
  obtain⟨⟨hpl,tx,htr⟩,hp⟩:=hp;simp only at hpl htr;unfold F8 at hf;split at hf
  ·rename_i ys hys;split at hf
   ·rename_i hle;have hv:=Zbe (Bh hR htr) hys;have hl:=hv.length;have hl2:=hall.length;simp only[Kqb]at hl hl2;have e:=Zuk off (a.eval x).cells.toList 0 vs (by simp;omega);obtain⟨arr,h1,h2⟩:=Zb4 hR place parts offs _ ((a.eval x).cells.zipIdx.foldl (fun cs (c,j)=>cs.setIfInBounds (off+j) c) vs) out hp (by
     rw[<-Array.foldl_toList,Array.toList_zipIdx,e];simp only[Kba,Kqb];rw[<-hl,hle.1];exact (hall.take off).append (hv.append (hall.drop _))) hf
    refine⟨arr, ?_,h2⟩;simp only[Kc,Instr.fill,hpl];rw[if_neg (by rw[<-hl];simp;omega)];exact h1
   ·simp at hf
  ·simp at hf
 | [],_::_,_,_,_,h,_,_=>h.elim
 | _::_,[],_,_,_,h,_,_=>h.elim
theorem Nr {nx:Nat}{t:TypeId}{v:Value}{cs:List C}(h:J6 P t v=some cs):Aa (CR pl nx) cs v.cells.toList:=by
 unfold J6 at h;split at h
 ·rename_i hall;simp only[Ka]at h;subst h;exact Zbl P pl nx _ _ fun u hu=>by simpa using (Kfe.1 hall) u (by simpa using hu)
 ·simp at h
theorem Zwi {fs:Array Field}{places:List (Nat×Nat)}(hpl:fs.toList.mapM (fun f=>(P.info? f.type).map fun i=>(f.offset,i.size))=some places) :
  ∀(parts:List (Nat×Operand)) (offs:List (Nat×Nat×Opd)),Yn P fs parts=some offs ->
  Aa (fun (p:Nat×Operand) (o:Nat×Nat×Opd)=>places.toArray[p.1]? = some (o.1,o.2.1)/\∃tx,trO P tx p.2=some o.2.2) parts offs
 | [],offs,h=>by simp only[Yn,Ka]at h;subst h;trivial
 | (i,x)::parts,offs,h=>by
  simp only[Yn,Ki,Kf,Ka]at h;obtain⟨f,hf,j,hj,y,hy,rest,hr,rfl⟩:=h;refine⟨⟨?_,_,hy⟩,Zwi hpl parts rest hr⟩;simp only[List.getElem?_toArray];have hl:∀(l:List Field) (q:List (Nat×Nat)),l.mapM (fun f=>(P.info? f.type).map fun i=>(f.offset,i.size))=some q->∀(k:Nat) (f:Field) (j:TypeInfo),l[k]? = some f->P.info? f.type=some j->q[k]? = some (f.offset,j.size):=by
   intro l
   induction l with
   | nil=>intro q _ k f j hk;simp at hk
   | cons b l ih =>
    intro q hq k f j hk hj;simp only[List.mapM_cons,Ki,Kf,Option.pure_def,Ka,Ku]at hq;obtain⟨z,⟨jb,hjb,rfl⟩,rest,hrest,rfl⟩:=hq;cases k with
    | zero=>simp at hk;subst hk;rw[hjb]at hj;simp at hj;subst hj;rfl
    | succ k=>simpa using ih rest hrest k f j (by simpa using hk) hj
  exact hl fs.toList places hpl i f j (by simpa using hf) hj
theorem Zwh {e:TypeId}{sz:Nat}:∀(parts:List (Nat×Operand)) (offs:List (Nat×Nat×Opd)),Ym P e sz parts=some offs ->
  Aa (fun (p:Nat×Operand) (o:Nat×Nat×Opd)=>(fun i=>some (i*sz,sz)) p.1=some (o.1,o.2.1)/\∃tx,trO P tx p.2=some o.2.2) parts offs
 | [],offs,h=>by simp only[Ym,Ka]at h;subst h;trivial
 | (i,x)::parts,offs,h=>by
  simp only[Ym,Ki,Kf,Ka]at h;obtain⟨y,hy,rest,hr,rfl⟩:=h;exact⟨⟨rfl,_,hy⟩,Zwh parts rest hr⟩
theorem Zy8 (hR:Rel N w0 own0 pl0 g pl S a w){t:TypeId}{parts:Array (Nat×Operand)}{ty:TypeId}{i:I}(ht:trR P ty (.build t parts)=some i) (h:ev S K i) :
  Fn P pl S.next K (Instr.build t (parts.map fun (i,x)=>(i,a.eval x))) w:=by
 simp only[trR,Ki,Kf]at ht;obtain⟨it,hit,z,hz,ht⟩:=ht;split at ht
 ·rename_i fs hu;split at ht
  ·rename_i hall;simp only[Kf,Ka]at ht;obtain⟨zc,hzc,offs,hoffs,rfl⟩:=ht;obtain⟨cs,hcs,hK⟩:=h;obtain⟨places,hpl⟩:∃places,fs.toList.mapM (fun f=>(P.info? f.type).map fun i=>(f.offset,i.size))=some places:=by
    have:∀l:List Field,(∀f∈l,(P.info? f.type).isSome)->∃q,l.mapM (fun f=>(P.info? f.type).map fun i=>(f.offset,i.size))=some q:=by
     intro l
     induction l with
     | nil=>intro _;exact⟨[],rfl⟩
     | cons b l ih =>
      intro hb;obtain⟨q,hq⟩:=ih fun f hf=>hb f (by simp [hf]);obtain⟨j,hj⟩:=Option.isSome_iff_exists.1 (hb b (by simp));exact⟨(b.offset,j.size)::q,by simp [List.mapM_cons,hj,hq]⟩
    exact this _ fun f hf=>(Kfe.1 hall) f (by simpa using hf)
   obtain⟨arr,h1,h2⟩:=Zb4 hR (places.toArray[·]?) parts.toList offs zc z.cells cs (Zwi hpl _ _ hoffs) (Nr hzc) hcs;refine So (vs:=arr.toList) hK ?_ h2;rw[run_build w t _ arr];unfold Program.built;simp only[hit,hu,hz,hpl];simpa using h1
  ·simp at ht
 ·rename_i n e hu;simp only[Ki,Kf,Ka]at ht;obtain⟨j,hj,zc,hzc,offs,hoffs,rfl⟩:=ht;obtain⟨cs,hcs,hK⟩:=h;obtain⟨arr,h1,h2⟩:=Zb4 hR (fun i=>some (i*j.size,j.size)) parts.toList offs zc z.cells cs (Zwh _ _ hoffs) (Nr hzc) hcs;refine So (vs:=arr.toList) hK ?_ h2;rw[run_build w t _ arr];unfold Program.built;simp only[hit,hu,hz,hj];simpa using h1
 ·simp at ht
theorem Zng (hR:Rel N w0 own0 pl0 g pl S a w):∀(l:List Operand) (xs:List Opd) (as:List A),H5 P [] l=some xs->Jb (xs.map S.opd)=some as->Aa (AR pl S.next) as (l.map a.eval)
 | [],xs,as,h,k=>by
  simp only[H5,Ka]at h;subst h;simp only[Ksb,Jb,Ka]at k;subst k;trivial
 | x::l,xs,as,h,k=>by
  simp only[H5,Ki,Kf,Ka]at h;obtain⟨y,hy,ys,hys,rfl⟩:=h;have h1:=Bh hR hy;simp only[Kc]at k;cases hc:S.opd y with
  | a z =>
   rw[hc]at k h1;simp only[Jb,Ku]at k;obtain⟨zs,hz,rfl⟩:=k;exact⟨h1,Zng hR l ys zs hys hz⟩
  | un=>rw[hc]at k;simp [Jb]at k
  | tp _=>rw[hc]at k;simp [Jb]at k
  | fn _ _=>rw[hc]at k;simp [Jb]at k
  | sb _ _=>rw[hc]at k;simp [Jb]at k
theorem Zpf (hR:Rel N w0 own0 pl0 g pl S a w){o:Oper}{i:I}(ht:trR P o.type o.op=some i) (h:ev S K i) :
  ∃v x,(execOp a.eval o).run P w=.ok (.value v) w/\VR pl S.next x v/\K x:=by
 obtain⟨dst,op,ty,pos,after,guard⟩:=o;have lift:∀{s:Sem Value},Fn P pl S.next K s w->(execOp a.eval ⟨dst,op,ty,pos,after,guard⟩=do pure (.value (<- s))) ->
   ∃v x,(execOp a.eval ⟨dst,op,ty,pos,after,guard⟩).run P w=.ok (.value v) w/\VR pl S.next x v/\K x:=by
  rintro s ⟨v,x,hr,hv,hK⟩ he;refine⟨v,x, ?_,hv,hK⟩;rw[he];simp [hr]
 cases op with
 | move x =>
  simp only[trR,Ku]at ht;obtain⟨y,hy,rfl⟩:=ht;exact lift (Zn9 hR hy h) rfl
 | assign x =>
  simp only[trR,Ku]at ht;obtain⟨y,hy,rfl⟩:=ht;exact lift (Zn9 hR hy h) rfl
 | pick c x y=>exact lift (Zzi hR ht h) (by simp [execOp])
 | load t x=>exact lift (Zzg hR ht h) rfl
 | binOp op t x y t'=>exact lift (Zy7 hR ht h) rfl
 | unOp op t x=>exact lift (Zzk hR ht h) rfl
 | convert s d x=>exact lift (Zy9 hR ht h) rfl
 | slice t x lo hi mx=>exact lift (Zzj hR ht h) rfl
 | fieldAddr t x f=>exact lift (Zzb hR ht h) rfl
 | field t x f=>exact lift (Zzc hR ht h) rfl
 | indexAddr t x y=>exact lift (Zzd hR ht h) rfl
 | index t x y=>exact lift (Zze hR ht h) rfl
 | extract x n=>exact lift (Zza hR ht h) rfl
 | nilCheck x =>
  simp only[trR,Ku]at ht;obtain⟨y,hy,rfl⟩:=ht;obtain⟨A,hA,z,hz,hK⟩:=Zzh hR hy h;refine⟨_,z, ?_,hz,hK⟩;simp [execOp,hA]
 | call c =>
  obtain⟨callee,args,tys⟩:=c;cases callee with
  | builtin b =>
   cases b<;>first
    | (simp [trR]at ht;done)
    | exact lift (Zzf hR (ty':=ty) ht h) (by simp [execOp,resolve,invoke,builtin])
  | value f=>simp [trR]at ht
  | invoke _ _=>simp [trR]at ht
 | build t parts=>exact lift (Zy8 hR ht h) rfl
 | makeFunc fn first caps =>
  cases fn with
  | func f =>
   simp only[trR]at ht;split at ht
   ·rename_i hs;simp only[Ku]at ht;obtain⟨xs,hxs,rfl⟩:=ht;simp only[ev]at h;obtain⟨as,has,hK⟩:=h;have:=Zng hR _ _ _ hxs has;have hf:first=#[]:=Array.eq_empty_of_size_eq_zero hs
    subst hf;refine⟨.func (.func f) #[] (caps.map a.eval),.fn f as, ?_,⟨caps.toList.map a.eval, ?_,this⟩,hK⟩
    ·simp [execOp,Instr.makeFunc]
    ·congr 1;apply Array.ext';simp
   ·simp at ht
  | _=>simp [trR]at ht
 | _=>simp [trR]at ht
end Go.Vs
namespace Go.Vs
variable [Glb]
theorem Zxp {b o b' o':Nat}(h:¬(b=b'/\o=o')):(⟨b,o,none⟩:Addr)≠⟨b',o',none⟩:=by
 intro e;injection e with e1 e2;exact h ⟨e1,e2⟩
theorem Gq {w:World}{b o b' o':Nat}{v:Value}(h:¬(b=b'/\o=o')):(w.setCell ⟨b,o,none⟩ v).cell? ⟨b',o',none⟩=w.cell? ⟨b',o',none⟩ :=
 World.cell?_setCell_other w _ _ v (Zxp h)
section
variable {w0:World} {own0:Nat->Nat->Prop} {w:World}
theorem Fr.setCell (h:Fr w0 own0 w){b o:Nat}(hb:w0.heap.size<=b\/own0 b o) (v:Value):Fr w0 own0 (w.setCell ⟨b,o,none⟩ v) where
 gl:=h.gl
 os:=h.os
 tape:=h.tape
 output:=h.output
 size:=by rw[World.size_setCell];exact h.size
 block:=fun k hk ho=>by
  rw[RowKit.Below.heap_setCell _ _ _ _ (by rintro rfl;exact hb.elim (fun hb=>by omega) (fun hb=>ho _ hb))];exact h.block k hk ho
 cell:=fun k j hk ho=>by
  rw[World.frozen?_setCell];rw[Gq (by rintro ⟨rfl,rfl⟩;exact hb.elim (fun hb=>by omega) (fun hb=>ho hb))];exact h.cell k j hk ho
theorem Fr.alloc (h:Fr w0 own0 w) (o:Obj):Fr w0 own0 (w.alloc o) where
 gl:=h.gl
 os:=h.os
 tape:=h.tape
 output:=h.output
 size:=by have:=h.size;simp;omega
 block:=fun k hk ho=>by
  have:=h.size;rw[RowKit.Below.heap_alloc _ _ _ (by omega)];exact h.block k hk ho
 cell:=fun k j hk ho=>by
  have:=h.size;rw[World.cell?_alloc_old w o _ (by simp;omega),World.frozen?_alloc_old w o _ (by simp;omega)];exact h.cell k j hk ho
theorem Fr.drew (h:Fr w0 own0 w):Fr w0 own0 w.drew:=⟨h.os,h.tape,h.output,h.size,h.block,h.cell,h.gl⟩
theorem Fr.refl (w:World) (own0:Nat->Nat->Prop) (hg:∀b o v,E5 b o=some v->b<w.heap.size/\¬own0 b o/\w.cell? ⟨b,o,none⟩=some v):Fr w own0 w:=⟨rfl,rfl,rfl,Kd _,fun _ _ _=>rfl,fun _ _ _ _=>⟨rfl,rfl⟩,hg⟩
end
structure Keep (st:Nat->Nat->Prop) (w:World) (g:Lab) (pl:Pls) (nx:Nat) (w':World) (g':Lab) (pl':Pls) (nx':Nat) (r:Nat):Prop where
 lab:∀b o q,g b o=some (r,q)->g' b o=some (r,q)/\w'.cell? ⟨b,o,none⟩=w.cell? ⟨b,o,none⟩/\w'.frozen? ⟨b,o,none⟩=w.frozen? ⟨b,o,none⟩
 st:∀b o,st b o->w'.cell? ⟨b,o,none⟩=w.cell? ⟨b,o,none⟩
 pl:∀q,pl' r q=pl r q
theorem lin {i len c sz cap:Nat}(h:i<len) (hl:len<=cap) (hc:c<sz):i*sz+c<cap*sz:=by
 have:(i+1)*sz<=cap*sz:=Kwb _ (by omega);rw[Kxa,Nat.one_mul]at this;omega
theorem NodeC.bound {w:World}{pl:Pls}{r:Nat}{p:Ad}{sz:Nat}{es:List (List D)}(h:NodeC w pl r p sz es){i c:Nat}{e:List D}{d:D}
  (he:es[i]? = some e) (hd:e[c]? = some d):i<es.length/\c<sz/\i*sz+c<(pl r p).cap*sz/\i*sz+c<es.length*sz:=by
 have hi:i<es.length:=by
  rcases Kac i es.length with h'|h'
  ·exact h'
  ·simp [Khc h']at he
 have hc:c<sz:=by
  rw[<-h.szs e (Ky he)];rcases Kac c e.length with h'|h'
  ·exact h'
  ·simp [Khc h']at hd
 exact⟨hi,hc,lin hi h.le hc,lin hi (Kd _) hc⟩
theorem NodeC.move {w w':World}{pl pl':Pls}{r r':Nat}{p p':Ad}{sz:Nat}{es:List (List D)}(h:NodeC w pl r p sz es)
  (hp:pl' r' p'=pl r p) (hch:∀i c e d,es[i]? = some e->e[c]? = some d->pl' r' (p'++[(i,c)])=pl r (p++[(i,c)]))
  (hc:∀j,j<es.length*sz->w'.cell? ⟨(pl r p).b,(pl r p).off+j,none⟩=w.cell? ⟨(pl r p).b,(pl r p).off+j,none⟩):NodeC w' pl' r' p' sz es where
 szp:=by rw[hp];exact h.szp
 le:=by rw[hp];exact h.le
 nil:=by rw[hp];exact h.nil
 szs:=h.szs
 cells:=fun i e c d he hd=>by
  obtain⟨v,hv,hdv⟩:=h.cells i e c d he hd;refine⟨v, ?_,by rw[hch i c e d he hd];exact hdv⟩;rw[hp,hc _ (h.bound he hd).2.2.2];exact hv
theorem L4.move {w w':World}{g g':Lab}{pl pl':Pls}{r r':Nat}{p p':Ad}(h:L4 w g pl r p) (hp:pl' r' p'=pl r p)
  (hl:∀b o,g b o=some (r,p)->g' b o=some (r',p')/\((∃v,w.cell? ⟨b,o,none⟩=some v)->∃v,w'.cell? ⟨b,o,none⟩=some v)/\w'.frozen? ⟨b,o,none⟩=w.frozen? ⟨b,o,none⟩):L4 w' g' pl' r' p':=by
 intro j hj;rw[hp]at hj ⊢;obtain⟨h1,h2,h3⟩:=h j hj;obtain⟨k1,k2,k3⟩:=hl _ _ h1;exact⟨k1,k2 h2,k3.trans h3⟩
def Root.map (k:C->C):Root->Root
 | .bx cs=>.bx (cs.map k)
 | .ib cs=>.ib (cs.map k)
 | x=>x
theorem Keep.root {st:Nat->Nat->Prop}{w w':World}{g g':Lab}{pl pl':Pls}{nx nx' r:Nat}{κ:C->C}(k:Keep st w g pl nx w' g' pl' nx' r) (hκ:∀x v,CR pl nx x v->CR pl' nx' (κ x) v)
  {x:Root} (h:C8 st w g pl nx r x):C8 st w' g' pl' nx' r (x.map κ):=by
 cases x with
 | tr sz es =>
  intro p n hn;obtain⟨hc,hm⟩:=h p n hn;refine⟨hc.move (k.pl p) (fun _ _ _ _ _ _=>k.pl _) fun j hj=>?_,hm.move (k.pl p) fun b o hb=>?_⟩
  ·have:=Kwb n.1 hc.le;exact (k.lab _ _ _ (hm j (by rw[hc.szp];omega)).1).2.1
  ·obtain⟨a,b',c⟩:=k.lab _ _ _ hb;exact⟨a,fun ⟨v,hv⟩=>⟨v,by rw[b'];exact hv⟩,c⟩
 | im sz es =>
  intro p n hn;obtain⟨hc,hm⟩:=h p n hn;refine⟨hc.move (k.pl p) (fun _ _ _ _ _ _=>k.pl _) fun j hj=>?_,fun j hj=>?_⟩
  ·exact k.st _ _ (hm j (by rw[hc.szp];omega))
  ·rw[k.pl]at hj ⊢;exact hm j hj
 | bx cs =>
  intro c x hx;simp only[Kz,Ku]at hx;obtain⟨y,hy,rfl⟩:=hx;obtain⟨v,h1,h2,h3,h4⟩:=h c y hy;obtain⟨a,b,d⟩:=k.lab _ _ _ h3;rw[k.pl];exact⟨v,by rw[b];exact h1,hκ _ _ h2,a,by rw[d];exact h4⟩
 | ib cs =>
  intro c x hx;simp only[Kz,Ku]at hx;obtain⟨y,hy,rfl⟩:=hx;obtain⟨v,h1,h2,h3⟩:=h c y hy;rw[k.pl];exact⟨v,by rw[k.st _ _ h3];exact h1,hκ _ _ h2,h3⟩
theorem Root.map_id (x:Root):x.map (fun c=>c)=x:=by cases x<;>simp [Root.map]
theorem Keep.root' {st:Nat->Nat->Prop}{w w':World}{g g':Lab}{pl pl':Pls}{nx nx' r:Nat}(k:Keep st w g pl nx w' g' pl' nx' r) (hκ:∀x v,CR pl nx x v->CR pl' nx' x v)
  {x:Root} (h:C8 st w g pl nx r x):C8 st w' g' pl' nx' r x:=by
 have:=k.root (κ:=fun c=>c) hκ h
 rwa [Root.map_id]at this
section
variable {w0:World} {own0:Nat->Nat->Prop} {pl0:Pls} {g:Lab} {pl:Pls} {roots:List (Nat×Root)} {nx nc fix:Nat} {w:World}
theorem Hp.drew (h:Hp w0 own0 pl0 g pl roots nx nc fix w):Hp w0 own0 pl0 g pl roots nx nc fix w.drew:=⟨h.fr.drew,h.lab,h.fixed,h.fixle,h.ncle,fun r x hx=>⟨(h.roots r x hx).1,Keep.root' (w:=w) (w':=w.drew) (g:=g) (pl:=pl) (nx:=nc) ⟨fun b o q hb=>⟨hb,rfl,rfl⟩,fun _ _ _=>rfl,fun _=>rfl⟩ (fun _ _ k=>k) (h.roots r x hx).2⟩⟩
theorem Hp.bump (h:Hp w0 own0 pl0 g pl roots nx nc fix w):Hp w0 own0 pl0 g pl roots nx nx fix w :=
 ⟨h.fr,h.lab,h.fixed,h.fixle,Kd _,fun r x hx=>⟨(h.roots r x hx).1,Keep.root' (nx:=nc) ⟨fun b o q hb=>⟨hb,rfl,rfl⟩,fun _ _ _=>rfl,fun _=>rfl⟩ (fun _ _ k=>k.mono h.ncle) (h.roots r x hx).2⟩⟩
def Ec (pl:Pls) (nx:Nat) (L:Ad->Pl):Pls:=fun r q=>if r=nx then L q else pl r q
def Mo (g:Lab) (B nx:Nat) (lb:Nat->Option Ad):Lab:=fun b o=>if b=B then (lb o).map fun q=>(nx,q) else g b o
theorem Ch (pl:Pls) (nx:Nat) (L:Ad->Pl):D5 nx pl (Ec pl nx L):=fun r p h=>by unfold Ec;rw[if_neg (by omega)]
theorem B1 (pl:Pls) (nx:Nat) (L:Ad->Pl) (q:Ad):Ec pl nx L nx q=L q:=by unfold Ec;rw[if_pos rfl]
theorem Hp.lab_ne (h:Hp w0 own0 pl0 g pl roots nx nc fix w){b o:Nat}{x:Nat×Ad}(hx:g b o=some x):b≠w.heap.size:=by have:=(h.lab b o x hx).1;omega
theorem Hp.new (h:Hp w0 own0 pl0 g pl roots nx nc fix w) (o:Obj) (x:Root) (L:Ad->Pl) (lb:Nat->Option Ad)
  (hx:C8 (Eu w0 own0) (w.alloc o) (Mo g w.heap.size nx lb) (Ec pl nx L) nc nx x) :
  Hp w0 own0 pl0 (Mo g w.heap.size nx lb) (Ec pl nx L) ((nx,x)::roots) (nx+1) nc fix (w.alloc o) where
 fr:=h.fr.alloc o
 lab:=fun b i y hy=>by
  have hs:=h.fr.size;unfold Mo at hy;split at hy
  ·rename_i hb;subst hb;simp only[Ku]at hy;obtain⟨q,hq,rfl⟩:=hy;exact⟨by simp,.inl hs,by simp⟩
  ·obtain⟨a,b',c⟩:=h.lab b i y hy;exact⟨by simp;omega,b',by omega⟩
 fixed:=fun r p hr=>by rw[Ch pl nx L r p (by have:=h.fixle;omega)];exact h.fixed r p hr
 fixle:=by have:=h.fixle;omega
 ncle:=by have:=h.ncle;omega
 roots:=fun r y hy=>by
  simp only[get]at hy;split at hy
  ·rename_i hr;subst hr;simp only[Ka]at hy;subst hy;exact⟨by omega,hx⟩
  ·obtain⟨hr,hok⟩:=h.roots r y hy;refine⟨by omega,Keep.root' ⟨?_, ?_, ?_⟩ (fun x v k=>k.agree fun r p hr=>Ch pl nx L r p (by have:=h.ncle;omega)) hok⟩
   ·intro b i q hb;have hne:=h.lab_ne hb;exact⟨by unfold Mo;rw[if_neg hne];exact hb,World.cell?_alloc_old w o _ (by simpa using hne),World.frozen?_alloc_old w o _ (by simpa using hne)⟩
   ·intro b i hst;have:=h.fr.size;exact World.cell?_alloc_old w o _ (by simp;have:=hst.1;omega)
   ·intro q;exact Ch pl nx L r q hr
theorem Hp.newBox (h:Hp w0 own0 pl0 g pl roots nx nc fix w) (cs:List C) (vs:List Value) (t:TypeId) (hall:Aa (CR pl nc) cs vs) :
  Hp w0 own0 pl0 (Mo g w.heap.size nx fun o=>some [(0,o)]) (Ec pl nx fun _=>⟨false,w.heap.size,0,0,1,none⟩) ((nx,.bx cs)::roots) (nx+1) nc fix (w.alloc (.cells vs.toArray t)):=by
 refine h.new _ _ _ _ ?_;intro c x hx;obtain⟨v,hv,hc⟩:=hall.get c x hx;rw[B1];refine⟨v, ?_,hc.agree fun r p hr=>Ch _ _ _ r p (by have:=h.ncle;omega), ?_, ?_⟩
 ·simp [hv]
 ·simp [Mo]
 ·simp
theorem Hp.newBox_ptr:CR (Ec pl nx fun _=>⟨false,w.heap.size,0,0,1,none⟩) (nx+1) (.pb nx 0) (.pointer (some ⟨w.heap.size,0,none⟩)):=by
 refine⟨by omega, ?_⟩;rw[B1]
theorem Hp.setBox (h:Hp w0 own0 pl0 g pl roots nx nc fix w){r:Nat}{cs:List C}(hr:get roots r=some (.bx cs)){c:Nat}(hc:c<cs.length){y:C}{u:Value}(hy:CR pl nc y u) :
  Hp w0 own0 pl0 g pl (put roots r (.bx (cs.set c y))) nx nc fix (w.setCell ⟨(pl r []).b,(pl r []).off+c,none⟩ u) /\
   ∃v,w.cell? ⟨(pl r []).b,(pl r []).off+c,none⟩=some v/\w.frozen? ⟨(pl r []).b,(pl r []).off+c,none⟩=false:=by
 obtain⟨hrn,hok⟩:=h.roots r _ hr;obtain⟨v,hv,hcr,hg,hfz⟩:=hok c _ (Kr hc);have hlab:=h.lab _ _ _ hg;refine⟨⟨h.fr.setCell hlab.2.1 u, ?_,h.fixed,h.fixle,h.ncle, ?_⟩,v,hv,hfz⟩
 ·intro b o x hx;rw[World.size_setCell];exact h.lab b o x hx
 ·intro r' x hx;rw[Au]at hx;split at hx
  ·rename_i e;subst e;simp only[Ka]at hx;subst hx;refine⟨hrn, ?_⟩;intro k z hz;rw[Kya]at hz;split at hz
   ·rename_i e;subst e;simp only[Ka]at hz;subst hz;exact⟨u,World.cell?_setCell_same w _ u hv,hy,hg,by rw[World.frozen?_setCell];exact hfz⟩
   ·rename_i hne;obtain⟨v',h1,h2,h3,h4⟩:=hok k z hz;exact⟨v',by rw[Gq (by omega)];exact h1,h2,h3,by rw[World.frozen?_setCell];exact h4⟩
  ·rename_i hne;obtain⟨hr',hok'⟩:=h.roots r' x hx;refine⟨hr',Keep.root' ⟨?_, ?_,fun _=>rfl⟩ (fun _ _ k=>k) hok'⟩
   ·intro b o q hb;refine⟨hb,Gq ?_,World.frozen?_setCell ..⟩;rintro ⟨rfl,rfl⟩;rw[hg]at hb;simp only[Ka,Kb]at hb;exact hne hb.1
   ·intro b o hst;refine Gq ?_;rintro ⟨rfl,rfl⟩;rcases hlab.2.1 with k|k
    ·have:=hst.1;omega
    ·exact hst.2 k
end
end Go.Vs
namespace Go.Vs
variable [Glb]
def Fb (es:List (List D)) (i c:Nat) (d:D):List (List D) :=
 match es[i]? with
 | some e=>es.set i (e.set c d)
 | none=>es
def Dm:List (List D)->Ad->(List (List D)->List (List D))->List (List D)
 | es,[],f=>f es
 | es,(i,c)::p,f =>
  match es[i]? with
  | some e=>match e[c]? with
   | some (.sl sz es')=>es.set i (e.set c (.sl sz (Dm es' p f)))
   | _=>es
  | none=>es
def Dz (es:List (List D)) (p:Ad) (i c:Nat) (d:D):List (List D):=Dm es p fun l=>Fb l i c d
def Sl (es:List (List D)) (p:Ad):List (List D) :=
 match p.getLast? with
 | some (i,c)=>Dz es p.dropLast i c .hole
 | none=>es
theorem Zgs (es:List (List D)) (p:Ad) (i c:Nat):Sl es (p++[(i,c)])=Dz es p i c .hole:=by
 simp [Sl]
def Zfn (d d0:D):Prop:=d=d0\/∃sz l l0,d=.sl sz l/\d0=.sl sz l0/\l.length=l0.length
def Sim (l l0:List (List D)):Prop:=l.length=l0.length/\∀(i:Nat) (e:List D),l[i]? = some e->∃e0:List D,l0[i]? = some e0/\e.length=e0.length/\∀(c:Nat) (d:D),e[c]? = some d->∃d0,e0[c]? = some d0/\Zfn d d0
theorem Sim.refl (l:List (List D)):Sim l l:=⟨rfl,fun i e h=>⟨e,h,rfl,fun c d hd=>⟨d,hd,.inl rfl⟩⟩⟩
theorem DV.sim {L:Pl}{d d0:D}{v:Value}(s:Zfn d d0) (h:DV L d0 v):DV L d v:=by
 rcases s with rfl|⟨sz,l,l0,rfl,rfl,e⟩
 ·exact h
 ·exact⟨h.1,by rw[e];exact h.2⟩
theorem NodeC.sim {w:World}{pl:Pls}{r:Nat}{p:Ad}{sz:Nat}{l l0:List (List D)}(h:NodeC w pl r p sz l0) (s:Sim l l0):NodeC w pl r p sz l where
 szp:=h.szp
 le:=by rw[s.1];exact h.le
 nil:=h.nil
 szs:=fun e he=>by
  obtain⟨i,hi⟩:=Kgc he;obtain⟨e0,h0,hl,_⟩:=s.2 i e hi;rw[hl];exact h.szs e0 (Ky h0)
 cells:=fun i e c d he hd=>by
  obtain⟨e0,h0,hl,hc⟩:=s.2 i e he;obtain⟨d0,hd0,hs⟩:=hc c d hd;obtain⟨v,hv,hk⟩:=h.cells i e0 c d0 h0 hd0;exact⟨v,hv,hk.sim hs⟩
theorem getElem?_lt {α:Type}{l:List α}{i:Nat}{x:α}(h:l[i]? = some x):i<l.length:=by
 rcases Kac i l.length with h'|h'
 ·exact h'
 ·simp [Khc h']at h
theorem Yln {es:List (List D)}{i c:Nat}{e:List D}{d d0:D}(he:es[i]? = some e) (hd:e[c]? = some d0) (s:Zfn d d0):Sim (es.set i (e.set c d)) es:=by
 refine⟨by simp,fun j x hx=>?_⟩;rw[Kya]at hx;split at hx
 ·rename_i hij;subst hij;split at hx
  ·simp only[Ka]at hx;subst hx;refine⟨e,he,by simp,fun k y hy=>?_⟩;rw[Kya]at hy;split at hy
   ·rename_i hck;subst hck;split at hy
    ·simp only[Ka]at hy;subst hy;exact⟨d0,hd,s⟩
    ·simp at hy
   ·exact⟨y,hy,.inl rfl⟩
  ·simp at hx
 ·exact⟨x,hx,rfl,fun k y hy=>⟨y,hy,.inl rfl⟩⟩
theorem Ym2 {sz0:Nat}{es:List (List D)}{p:Ad}{f:List (List D)->List (List D)}{n:Nat×List (List D)}(hp:Al sz0 es p=some n) (hf:(f n.2).length=n.2.length) :
  (Dm es p f).length=es.length:=by
 cases p with
 | nil=>simp only[Al,Ka]at hp;subst hp;exact hf
 | cons a p =>
  obtain⟨i,c⟩:=a;unfold Dm;split
  ·split<;>simp
  ·rfl
theorem Zrz {sz0:Nat}{es:List (List D)}{i c:Nat}{e:List D}{d:D}(he:es[i]? = some e){j k:Nat}(q:Ad) (h:¬(j=i/\k=c)) :
  Al sz0 (es.set i (e.set c d)) ((j,k)::q)=Al sz0 es ((j,k)::q):=by
 simp only[Al];have:((es.set i (e.set c d))[j]?).bind (·[k]?)=(es[j]?).bind (·[k]?):=by
  rw[Kya];split
  ·rename_i hij;subst hij;split
   ·rename_i hl;simp only[Koa,he];rw[Kya,if_neg (fun hck=>h ⟨rfl,hck.symm⟩)]
   ·rename_i hl;rw[Khc (by omega)]
  ·rfl
 rw[this]
theorem Zjd {sz0:Nat}{es:List (List D)}{i c:Nat}{e:List D}{d d0:D}(he:es[i]? = some e) (hd:e[c]? = some d0) (q:Ad) :
  Al sz0 (es.set i (e.set c d)) ((i,c)::q)=match d with|.sl sz' es'=>Al sz' es' q|_=>none:=by
 have h1:=getElem?_lt he;have h2:=getElem?_lt hd;simp only[Al];rw[Kya,if_pos rfl,if_pos h1];simp only[Koa];rw[Kya,if_pos rfl,if_pos h2];cases d<;>rfl
theorem Zeq {f:List (List D)->List (List D)}:∀{p:Ad}{sz0:Nat}{es:List (List D)}{n:Nat×List (List D)},Al sz0 es p=some n->(f n.2).length=n.2.length ->
  ∀(q:Ad) (m:Nat×List (List D)),Al sz0 (Dm es p f) q=some m ->
   (∃q',q=p++q'/\Al n.1 (f n.2) q'=some m)\/(∃m0,Al sz0 es q=some m0/\¬p <+: q/\m.1=m0.1/\Sim m.2 m0.2)
 | [],sz0,es,n,hp,hf,q,m,hm=>by
  simp only[Al,Ka]at hp;subst hp;exact .inl ⟨q,rfl,hm⟩
 | (i,c)::p,sz0,es,n,hp,hf,q,m,hm=>by
  simp only[Al]at hp;split at hp
  ·rename_i sz' es' hcell;simp only[Kf]at hcell;obtain⟨e,he,hd⟩:=hcell;simp only[Dm,he,hd]at hm;cases q with
   | nil =>
    simp only[Al,Ka]at hm;subst hm;refine .inr ⟨(sz0,es),rfl,by simp,rfl,Yln he hd (.inr ⟨_,_,_,rfl,rfl,Ym2 hp hf⟩)⟩
   | cons a q =>
    obtain⟨j,k⟩:=a;by_cases hjk:j=i/\k=c
    ·obtain⟨rfl,rfl⟩:=hjk;rw[Zjd he hd]at hm;simp only at hm;rcases Zeq hp hf q m hm with ⟨q',rfl,h⟩|⟨m0,h1,h2,h3,h4⟩
     ·exact .inl ⟨q',rfl,h⟩
     ·refine .inr ⟨m0, ?_,by simpa using h2,h3,h4⟩;simp only[Al,he,Koa,hd];exact h1
    ·rw[Zrz he q hjk]at hm;refine .inr ⟨m,hm, ?_,rfl,Sim.refl _⟩;intro hpre;rw[Kye]at hpre;obtain⟨hh,_⟩:=hpre;simp only[Kb]at hh;exact hjk ⟨hh.1.symm,hh.2.symm⟩
  ·simp at hp
theorem Zd4 {sz0:Nat}{es:List (List D)}{p:Ad}{n:Nat×List (List D)}(hp:Al sz0 es p=some n){i c:Nat}{e:List D}{d0:D}(he:n.2[i]? = some e) (hd:e[c]? = some d0) (d:D)
  (q:Ad) (m:Nat×List (List D)) (hm:Al sz0 (Dz es p i c d) q=some m) :
  (q=p/\m=(n.1,n.2.set i (e.set c d)))\/(∃q' sz' es',q=p++(i,c)::q'/\d=.sl sz' es'/\Al sz' es' q'=some m) \/
   (∃m0,Al sz0 es q=some m0/\q≠p/\¬(p++[(i,c)]) <+: q/\m.1=m0.1/\Sim m.2 m0.2):=by
 have hset:Fb n.2 i c d=n.2.set i (e.set c d):=by simp [Fb,he]
 rcases Zeq (f:=fun l=>Fb l i c d) hp (by simp only[hset];simp) q m hm with ⟨q',rfl,h⟩|⟨m0,h1,h2,h3,h4⟩
 ·simp only[hset]at h;cases q' with
  | nil=>simp only[Al,Ka]at h;exact .inl ⟨by simp,h.symm⟩
  | cons a q' =>
   obtain⟨j,k⟩:=a;by_cases hjk:j=i/\k=c
   ·obtain⟨rfl,rfl⟩:=hjk;rw[Zjd he hd]at h;cases d with
    | sl sz' es'=>exact .inr (.inl ⟨q',sz',es',rfl,rfl,h⟩)
    | lf v=>simp at h
    | hole=>simp at h
   ·rw[Zrz he q' hjk]at h;refine .inr (.inr ⟨m, ?_,by simp, ?_,rfl,Sim.refl _⟩)
    ·rw[Li,hp];exact h
    ·intro hpre;rw[Klg,Kye]at hpre;obtain⟨hh,_⟩:=hpre;simp only[Kb]at hh;exact hjk ⟨hh.1.symm,hh.2.symm⟩
 ·refine .inr (.inr ⟨m0,h1, ?_, ?_,h3,h4⟩)
  ·rintro rfl;exact h2 (List.prefix_refl _)
  ·intro hpre;exact h2 ((Kie p _).trans hpre)
end Go.Vs
namespace Go.Vs
variable [Glb]
theorem Zrd {i j c k sz:Nat}(hc:c<sz) (hk:k<sz) (h:i*sz+c=j*sz+k):i=j/\c=k:=by
 rcases Nat.lt_trichotomy i j with hij|hij|hij
 ·have:=Kwb sz (show i+1<=j by omega);rw[Kxa,Nat.one_mul]at this;omega
 ·subst hij;omega
 ·have:=Kwb sz (show j+1<=i by omega);rw[Kxa,Nat.one_mul]at this;omega
theorem NodeC.set {w w':World}{pl pl':Pls}{r:Nat}{p:Ad}{sz:Nat}{es:List (List D)}(h:NodeC w pl r p sz es){i c:Nat}{e:List D}{d0:D}(he:es[i]? = some e) (hd:e[c]? = some d0) (d:D)
  (hp:pl' r p=pl r p) (hch:∀j k,¬(j=i/\k=c)->pl' r (p++[(j,k)])=pl r (p++[(j,k)]))
  (hw:∀j,j<(pl r p).cap*sz->j≠i*sz+c->w'.cell? ⟨(pl r p).b,(pl r p).off+j,none⟩=w.cell? ⟨(pl r p).b,(pl r p).off+j,none⟩)
  {u:Value} (hu:w'.cell? ⟨(pl r p).b,(pl r p).off+(i*sz+c),none⟩=some u) (hdv:DV (pl' r (p++[(i,c)])) d u):NodeC w' pl' r p sz (es.set i (e.set c d)) where
 szp:=by rw[hp];exact h.szp
 le:=by rw[hp];simp;exact h.le
 nil:=by rw[hp];exact h.nil
 szs:=fun x hx=>by
  obtain⟨j,hj⟩:=Kgc hx;rw[Kya]at hj;split at hj
  ·split at hj
   ·simp only[Ka]at hj;subst hj;rw[Khe];exact h.szs e (Ky he)
   ·simp at hj
  ·exact h.szs x (Ky hj)
 cells:=fun j x k y hx hy=>by
  rw[hp];have hb:=h.bound he hd;by_cases hjk:j=i/\k=c
  ·obtain⟨rfl,rfl⟩:=hjk;rw[Kya,if_pos rfl,if_pos hb.1]at hx;simp only[Ka]at hx;subst hx;rw[Kya,if_pos rfl,if_pos (getElem?_lt hd)]at hy;simp only[Ka]at hy;subst hy;exact⟨u,hu,hdv⟩
  ·have hold:∃x0,es[j]? = some x0/\x0[k]? = some y:=by
    rw[Kya]at hx;split at hx
    ·rename_i hij;subst hij;rw[if_pos hb.1]at hx;simp only[Ka]at hx;subst hx;rw[Kya,if_neg (fun hck=>hjk ⟨rfl,hck.symm⟩)]at hy;exact⟨e,he,hy⟩
    ·exact⟨x,hx,hy⟩
   obtain⟨x0,hx0,hy0⟩:=hold;obtain⟨v,hv,hk⟩:=h.cells j x0 k y hx0 hy0;have hb':=h.bound hx0 hy0;refine⟨v, ?_,by rw[hch j k hjk];exact hk⟩;rw[hw _ hb'.2.2.1 (fun e=>hjk (Zrd hb'.2.1 hb.2.1 e))];exact hv
theorem L4.lab {w:World}{g:Lab}{pl:Pls}{r:Nat}{p:Ad}{sz:Nat}{es:List (List D)}(m:L4 w g pl r p) (h:NodeC w pl r p sz es){j:Nat}(hj:j<(pl r p).cap*sz) :
  g (pl r p).b ((pl r p).off+j)=some (r,p):=(m j (by rw[h.szp];exact hj)).1
section
variable {w0:World} {own0:Nat->Nat->Prop} {pl0:Pls} {g:Lab} {pl:Pls} {roots:List (Nat×Root)} {nx nc fix:Nat} {w:World}
theorem Zqy (h:Hp w0 own0 pl0 g pl roots nx nc fix w){b o r:Nat}{p:Ad}(hg:g b o=some (r,p)) (u:Value){r':Nat}(hne:r'≠r) :
  Keep (Eu w0 own0) w g pl nc (w.setCell ⟨b,o,none⟩ u) g pl nc r' where
 lab:=fun b' o' q hb=>by
  refine⟨hb,Gq ?_,World.frozen?_setCell ..⟩;rintro ⟨rfl,rfl⟩;rw[hg]at hb;simp only[Ka,Kb]at hb;exact hne hb.1.symm
 st:=fun b' o' hst=>by
  refine Gq ?_;rintro ⟨rfl,rfl⟩;rcases (h.lab _ _ _ hg).2.1 with k|k
  ·have:=hst.1;omega
  ·exact hst.2 k
 pl:=fun _=>rfl
theorem Hp.setLeaf (h:Hp w0 own0 pl0 g pl roots nx nc fix w){r sz0:Nat}{es:List (List D)}(hr:get roots r=some (.tr sz0 es)){p:Ad}{n:Nat×List (List D)}(hp:Al sz0 es p=some n)
  {i c:Nat} {e:List D} {d0:D} (he:n.2[i]? = some e) (hd:e[c]? = some d0) {u:Value} (hu:u.oneCell'=true) :
  Hp w0 own0 pl0 g pl (put roots r (.tr sz0 (Dz es p i c (.lf u)))) nx nc fix (w.setCell ⟨(pl r p).b,(pl r p).off+(i*n.1+c),none⟩ u) /\
   ∃v,w.cell? ⟨(pl r p).b,(pl r p).off+(i*n.1+c),none⟩=some v/\w.frozen? ⟨(pl r p).b,(pl r p).off+(i*n.1+c),none⟩=false:=by
 obtain⟨hrn,hok⟩:=h.roots r _ hr;obtain⟨hc,hm⟩:=hok p n hp;have hb:=hc.bound he hd;have hm':=hm (i*n.1+c) (by rw[hc.szp];exact hb.2.2.1);obtain⟨hg,⟨v,hv⟩,hfz⟩:=hm';have hlab:=h.lab _ _ _ hg;refine⟨⟨h.fr.setCell hlab.2.1 u, ?_,h.fixed,h.fixle,h.ncle, ?_⟩,v,hv,hfz⟩
 ·intro b o x hx;rw[World.size_setCell];exact h.lab b o x hx
 ·intro r' x hx;rw[Au]at hx;split at hx
  ·rename_i e';subst e';simp only[Ka]at hx;subst hx;refine⟨hrn, ?_⟩;intro q m hq;rcases Zd4 hp he hd (.lf u) q m hq with ⟨rfl,rfl⟩|⟨q',sz',es',rfl,hbad,_⟩|⟨m0,h1,h2,h3,h4,h5⟩
   ·refine⟨hc.set he hd (.lf u) rfl (fun _ _ _=>rfl) (fun j hj hne=>Gq (by omega)) (World.cell?_setCell_same w _ u hv) ⟨rfl,hu⟩,hm.move rfl fun b o hb'=>⟨hb',fun ⟨z,hz⟩=>?_,World.frozen?_setCell ..⟩⟩;by_cases heq:(pl r q).b=b/\(pl r q).off+(i*n.1+c)=o
    ·obtain⟨rfl,rfl⟩:=heq;exact⟨u,World.cell?_setCell_same w _ u hv⟩
    ·exact⟨z,by rw[Gq heq];exact hz⟩
   ·cases hbad
   ·obtain⟨hc0,hm0⟩:=hok q m0 h1;have hne:∀b o,g b o=some (r,q)->¬((pl r p).b=b/\(pl r p).off+(i*n.1+c)=o):=by
     rintro b o hb' ⟨rfl,rfl⟩;rw[hg]at hb';simp only[Ka,Kb,true_and]at hb';exact h2 hb'.symm
    rw[h4];refine⟨(hc0.sim h5).move rfl (fun _ _ _ _ _ _=>rfl) fun j hj=>Gq (hne _ _ (hm0.lab hc0 ?_)),hm0.move rfl fun b o hb'=>⟨hb',fun ⟨z,hz⟩=>⟨z,by rw[Gq (hne _ _ hb')];exact hz⟩,World.frozen?_setCell ..⟩⟩;have:=Kwb m0.1 hc0.le;rw[h5.1]at hj;omega
  ·rename_i hne;obtain⟨hr',hok'⟩:=h.roots r' x hx;exact⟨hr',(Zqy h hg u (fun e=>hne e.symm)).root' (fun _ _ k=>k) hok'⟩
def Gz (pl:Pls) (R:Nat) (pre:Ad) (L:Ad->Pl):Pls:=fun r q=>if r=R/\pre <+: q then L (q.drop pre.length) else pl r q
theorem Zso (pl:Pls) (R:Nat) (pre:Ad) (L:Ad->Pl) (q:Ad):Gz pl R pre L R (pre++q)=L q:=by
 unfold Gz;rw[if_pos ⟨rfl,Kie _ _⟩];simp
theorem Zjt (pl:Pls) (R:Nat) (pre:Ad) (L:Ad->Pl):Gz pl R pre L R pre=L []:=by
 have:=Zso pl R pre L [];simpa using this
theorem G0 {pl:Pls}{R:Nat}{pre:Ad}{L:Ad->Pl}{r:Nat}{q:Ad}(h:¬(r=R/\pre <+: q)):Gz pl R pre L r q=pl r q:=by
 unfold Gz;rw[if_neg h]
theorem Qj (κ:C->C) (r:Nat):∀l:List (Nat×Root),get (l.map fun x=>(x.1,x.2.map κ)) r=(get l r).map (Root.map κ)
 | []=>rfl
 | (k,y)::l=>by simp only[Kc,get];split<;>simp [Qj κ r l]
theorem Qs {p:Ad}{i c:Nat}:¬(p++[(i,c)]) <+: p:=by
 intro hh;have:=hh.length_le;simp at this;omega
theorem Zr3 {p:Ad}{i c j k:Nat}(hjk:¬(j=i/\k=c)):¬(p++[(i,c)]) <+: (p++[(j,k)]):=by
 intro hpre;rw[Klg,Kye]at hpre;obtain⟨hh,_⟩:=hpre;simp only[Kb]at hh;exact hjk ⟨hh.1.symm,hh.2.symm⟩
theorem Zr4 {p q:Ad}{i c j k:Nat}(h2:q≠p) (h3:¬(p++[(i,c)]) <+: q):¬(p++[(i,c)]) <+: (q++[(j,k)]):=by
 intro hpre;rcases List.prefix_concat_iff.1 hpre with e|e
 ·exact h2 (List.append_inj' e rfl).1.symm
 ·exact h3 e
theorem Hp.setNil (h:Hp w0 own0 pl0 g pl roots nx nc fix w){r sz0:Nat}{es:List (List D)}(hr:get roots r=some (.tr sz0 es)){p:Ad}{n:Nat×List (List D)}(hp:Al sz0 es p=some n)
  {i c:Nat} {e:List D} (he:n.2[i]? = some e) (hd:e[c]? = some (.lf (.slice none 0 0))) (sz:Nat) (hfix:fix<=r) {κ:C->C}
  (hκ:∀x u,CR pl nc x u->CR (Gz pl r (p++[(i,c)]) fun _=>⟨true,0,0,0,sz,none⟩) nc (κ x) u) :
  Hp w0 own0 pl0 g (Gz pl r (p++[(i,c)]) fun _=>⟨true,0,0,0,sz,none⟩) (put (roots.map fun x=>(x.1,x.2.map κ)) r (.tr sz0 (Dz es p i c (.sl sz [])))) nx nc fix w:=by
 obtain⟨hrn,hok⟩:=h.roots r _ hr;obtain⟨hc,hm⟩:=hok p n hp;have hb:=hc.bound he hd;obtain⟨v,hv,hdv⟩:=hc.cells i e c _ he hd;have hpl:∀q,¬(p++[(i,c)]) <+: q->Gz pl r (p++[(i,c)]) (fun _=>⟨true,0,0,0,sz,none⟩) r q=pl r q:=fun q hq=>G0 fun k=>hq k.2;refine⟨h.fr,h.lab, ?_,h.fixle,h.ncle, ?_⟩
 ·intro r' q hr';rw[G0 (by rintro ⟨rfl,_⟩;omega)];exact h.fixed r' q hr'
 ·intro r' x hx;rw[Au]at hx;split at hx
  ·rename_i e';subst e';simp only[Ka]at hx;subst hx;refine⟨hrn, ?_⟩;intro q m hq;rcases Zd4 hp he hd (.sl sz []) q m hq with ⟨rfl,rfl⟩|⟨q',sz',es',rfl,hbad,hn'⟩|⟨m0,h1,h2,h3,h4,h5⟩
   ·refine⟨hc.set he hd (.sl sz []) (hpl _ Qs) (fun j k hjk=>hpl _ (Zr3 hjk)) (fun j hj hne=>rfl) hv ?_,hm.move (hpl _ Qs) fun b o hb'=>⟨hb',id,rfl⟩⟩;rw[Zjt];exact⟨rfl,hdv.1⟩
   ·simp only[D.sl.injEq]at hbad;obtain⟨rfl,rfl⟩:=hbad;cases q' with
    | nil =>
     simp only[Al,Ka]at hn';subst hn';have hq:=Zjt pl r (p++[(i,c)]) fun _=>⟨true,0,0,0,sz,none⟩;refine⟨⟨by rw[hq],by rw[hq];simp,by rw[hq];simp,by simp,by simp⟩, ?_⟩;intro j hj;rw[hq]at hj;simp at hj
    | cons a q' =>
     obtain⟨j,k⟩:=a;simp [Al]at hn'
   ·obtain⟨hc0,hm0⟩:=hok q m0 h1;rw[h4];exact⟨(hc0.sim h5).move (hpl _ h3) (fun j k _ _ _ _=>hpl _ (Zr4 h2 h3)) fun j hj=>rfl,hm0.move (hpl _ h3) fun b o hb'=>⟨hb',id,rfl⟩⟩
  ·rename_i hne;rw[Qj]at hx;simp only[Ku]at hx;obtain⟨y,hy,rfl⟩:=hx;obtain⟨hr',hok'⟩:=h.roots r' y hy;refine⟨hr',Keep.root ⟨fun b o q hb=>⟨hb,rfl,rfl⟩,fun _ _ _=>rfl,fun q=>?_⟩ hκ hok'⟩;exact G0 (by rintro ⟨rfl,_⟩;exact hne rfl)
def D2 (roots:List (Nat×Root)) (r:Nat) (p:Ad):List (Nat×Root) :=
 match p with
 | []=>del roots r
 | _=>match get roots r with
  | some (.tr sz es)=>put roots r (.tr sz (Sl es p))
  | _=>roots
theorem Zvj {sz:Nat}{es:List (List D)}{n:Nat}{q:Ad}{m:Nat×List (List D)}(h:Al sz (es.take n) q=some m) :
  (q=[]/\m=(sz,es.take n))\/(q≠[]/\Al sz es q=some m):=by
 cases q with
 | nil=>simp only[Al,Ka]at h;exact .inl ⟨rfl,h.symm⟩
 | cons a q =>
  obtain⟨i,c⟩:=a;refine .inr ⟨by simp, ?_⟩;unfold Al at h ⊢;by_cases hi:i<n
  ·rw[Ksa,if_pos hi]at h;exact h
  ·rw[Ksa,if_neg hi]at h;simp at h
theorem NodeC.take {w:World}{pl:Pls}{r:Nat}{p:Ad}{sz:Nat}{es:List (List D)}(h:NodeC w pl r p sz es) (n:Nat):NodeC w pl r p sz (es.take n) where
 szp:=h.szp
 le:=by rw[Kta];have:=h.le;omega
 nil:=h.nil
 szs:=fun e he=>h.szs e (Kkb he)
 cells:=fun i e c d he hd=>by
  rw[Ksa]at he;by_cases hi:i<n
  ·rw[if_pos hi]at he;exact h.cells i e c d he hd
  ·rw[if_neg hi]at he;simp at he
def Jo (g:Lab) (r:Nat) (p:Ad) (R:Nat) (P:Ad):Lab:=fun b o =>
 match g b o with
 | some (r',q)=>if r'=r/\p <+: q then some (R,P++q.drop p.length) else some (r',q)
 | none=>none
theorem Zit {g:Lab}{r:Nat}{p:Ad}{R:Nat}{P:Ad}{b o:Nat}{q:Ad}(h:g b o=some (r,p++q)):Jo g r p R P b o=some (R,P++q):=by
 unfold Jo;rw[h];simp only[true_and,Kie,if_true];simp
theorem Tj {g:Lab}{r:Nat}{p:Ad}{R:Nat}{P:Ad}{b o:Nat}{r':Nat}{q:Ad}(h:g b o=some (r',q)) (hn:¬(r'=r/\p <+: q)):Jo g r p R P b o=some (r',q):=by
 unfold Jo;rw[h];simp only[hn,if_false]
theorem Ziu {g:Lab}{r:Nat}{p:Ad}{R:Nat}{P:Ad}{b o:Nat}{x:Nat×Ad}(h:Jo g r p R P b o=some x):∃y,g b o=some y/\(x.1=R\/x=y):=by
 unfold Jo at h;split at h
 ·rename_i r' q hg;split at h
  ·simp only[Ka]at h;subst h;exact⟨_,hg,.inl rfl⟩
  ·simp only[Ka]at h;subst h;exact⟨_,hg,.inr rfl⟩
 ·simp at h
theorem Zp8 {L:Pl}{sz n:Nat}{v:Value}(h:Win L sz 0 n v):v=hdr L n:=by
 obtain⟨hsz,hnil,hle,A,rfl,hA⟩:=h;simp only[hdr,Pl.base,Koc];rw[hA (.inr rfl)];simp
theorem Zn4 (h:Hp w0 own0 pl0 g pl roots nx nc fix w){r sz0:Nat}{es:List (List D)}(hr:get roots r=some (.tr sz0 es)){p:Ad}{sz:Nat}{es1:List (List D)}(hp:Al sz0 es p=some (sz,es1))
  {x:Root} (hx:get (D2 roots r p) r=some x):∃es',x=.tr sz0 es'/\∀q m,Al sz0 es' q=some m->NodeC w pl r q m.1 m.2/\L4 w g pl r q/\¬p <+: q:=by
 obtain⟨hrn,hok⟩:=h.roots r _ hr;by_cases hp0:p=[]
 ·subst hp0;simp [D2,Ga]at hx
 ·obtain⟨p0,⟨i,c⟩,rfl⟩:∃p0 a,p=p0++[a]:=⟨p.dropLast,p.getLast hp0,(List.dropLast_concat_getLast hp0).symm⟩;have hne:p0++[(i,c)]≠[]:=by simp
  have hcut:D2 roots r (p0++[(i,c)])=put roots r (.tr sz0 (Dz es p0 i c .hole)):=by
   unfold D2;split
   ·rename_i hh;exact absurd hh hne
   ·rw[hr];simp only;rw[Zgs]
  rw[hcut,Au,if_pos rfl]at hx;simp only[Ka]at hx;refine⟨_,hx.symm, ?_⟩;rw[Li]at hp;simp only[Kf]at hp;obtain⟨n,hn,hcell⟩:=hp;simp only[Al]at hcell;split at hcell
  ·rename_i sz' es' hb;simp only[Kf]at hb;obtain⟨e,he,hd⟩:=hb;obtain⟨hc,hm⟩:=hok p0 n hn;intro q m hq;rcases Zd4 hn he hd .hole q m hq with ⟨rfl,rfl⟩|⟨q',sz',es',rfl,hbad,_⟩|⟨m0,h1,h2,h3,h4,h5⟩
   ·obtain⟨v,hv,hdv⟩:=hc.cells i e c _ he hd;exact⟨hc.set he hd .hole rfl (fun _ _ _=>rfl) (fun _ _ _=>rfl) hv hdv.one,hm,Qs⟩
   ·cases hbad
   ·obtain⟨hc0,hm0⟩:=hok q m0 h1;rw[h4];exact⟨hc0.sim h5,hm0,h3⟩
  ·simp at hcell
theorem Sm {r r':Nat}{p:Ad}(hne:r'≠r):get (D2 roots r p) r'=get roots r':=by
 unfold D2;split
 ·rw[Ga,if_neg (fun e=>hne e.symm)]
 ·split
  ·rw[Au,if_neg (fun e=>hne e.symm)]
  ·rfl
theorem Hp.move (h:Hp w0 own0 pl0 g pl roots nx nc fix w){R szR:Nat}{esR:List (List D)}(hR:get roots R=some (.tr szR esR)){P:Ad}{nP:Nat×List (List D)}(hP:Al szR esR P=some nP)
  {i c:Nat} {e:List D} {v:Value} (he:nP.2[i]? = some e) (hd:e[c]? = some (.lf v)) (hfix:fix<=R)
  {r:Nat} (hne:r≠R) {p:Ad} {sz n sz0:Nat} {es:List (List D)} (hr:get roots r=some (.tr sz0 es)) {es1:List (List D)} (hp:Al sz0 es p=some (sz,es1)) (hn:n<=es1.length)
  (hv:Win (pl r p) sz 0 n v) {κ:C->C} (hκ:∀x u,CR pl nc x u->CR (Gz pl R (P++[(i,c)]) fun q=>pl r (p++q)) nc (κ x) u) :
  Hp w0 own0 pl0 (Jo g r p R (P++[(i,c)])) (Gz pl R (P++[(i,c)]) fun q=>pl r (p++q))
   (put ((D2 roots r p).map fun x=>(x.1,x.2.map κ)) R (.tr szR (Dz esR P i c (.sl sz (es1.take n))))) nx nc fix w:=by
 obtain⟨hRn,hokR⟩:=h.roots R _ hR;obtain⟨hrn,hokr⟩:=h.roots r _ hr;obtain⟨hc,hm⟩:=hokR P nP hP;have hpl:∀q,¬(P++[(i,c)]) <+: q->Gz pl R (P++[(i,c)]) (fun q=>pl r (p++q)) R q=pl R q:=fun q hq=>G0 fun k=>hq k.2;have hlo:∀b o q,g b o=some (R,q)->Jo g r p R (P++[(i,c)]) b o=some (R,q):=fun b o q hb=>Tj hb fun k=>hne k.1.symm;refine⟨h.fr, ?_, ?_,h.fixle,h.ncle, ?_⟩
 ·intro b o x hx;obtain⟨y,hy,hxy⟩:=Ziu hx;obtain⟨a,b',c'⟩:=h.lab b o y hy;refine⟨a,b', ?_⟩;rcases hxy with e|rfl
  ·rw[e];exact hRn
  ·exact c'
 ·intro r' q hr';rw[G0 (by rintro ⟨rfl,_⟩;omega)];exact h.fixed r' q hr'
 ·intro r' x hx;rw[Au]at hx;split at hx
  ·rename_i e';subst e';simp only[Ka]at hx;subst hx;refine⟨hRn, ?_⟩;intro q m hq;rcases Zd4 hP he hd (.sl sz (es1.take n)) q m hq with ⟨rfl,rfl⟩|⟨q',sz',es',rfl,hbad,hn'⟩|⟨m0,h1,h2,h3,h4,h5⟩
   ·obtain⟨v',hv',hdv⟩:=hc.cells i e c _ he hd;refine⟨hc.set he hd _ (hpl _ Qs) (fun j k hjk=>hpl _ (Zr3 hjk)) (fun j hj hne=>rfl) hv' ?_,hm.move (hpl _ Qs) fun b o hb'=>⟨hlo _ _ _ hb',id,rfl⟩⟩;rw[Zjt,Kv];refine⟨hv.1, ?_⟩;rw[hdv.1,Zp8 hv,Kta,Kvd hn]
   ·simp only[D.sl.injEq]at hbad;obtain⟨rfl,rfl⟩:=hbad;have hq0:∀s,Gz pl R (P++[(i,c)]) (fun q=>pl r (p++q)) R (P++(i,c)::s)=pl r (p++s):=by
     intro s;have:=Zso pl R (P++[(i,c)]) (fun q=>pl r (p++q)) s;simpa using this
    have hold:NodeC w pl r (p++q') m.1 m.2/\L4 w g pl r (p++q'):=by
     rcases Zvj hn' with ⟨rfl,rfl⟩|⟨_,hn''⟩
     ·obtain⟨a,b⟩:=hokr p _ hp;rw[Kv];exact⟨a.take n,b⟩
     ·exact hokr (p++q') m (by rw[Li,hp];exact hn'')
    refine⟨hold.1.move (hq0 _) (fun j k _ _ _ _=>?_) fun j hj=>rfl,hold.2.move (hq0 _) fun b o hb'=>⟨?_,id,rfl⟩⟩
    ·have:=hq0 (q'++[(j,k)]);simpa using this
    ·have:=Zit (R:=R) (P:=P++[(i,c)]) hb';simpa using this
   ·obtain⟨hc0,hm0⟩:=hokR q m0 h1;rw[h4];exact⟨(hc0.sim h5).move (hpl _ h3) (fun j k _ _ _ _=>hpl _ (Zr4 h2 h3)) fun j hj=>rfl,hm0.move (hpl _ h3) fun b o hb'=>⟨hlo _ _ _ hb',id,rfl⟩⟩
  ·rename_i hneR;rw[Qj]at hx;simp only[Ku]at hx;obtain⟨y,hy,rfl⟩:=hx;by_cases hrr:r'=r
   ·subst hrr;obtain⟨es',rfl,hall⟩:=Zn4 h hr hp hy;refine⟨hrn, ?_⟩;intro q m hq;obtain⟨a,b,hnp⟩:=hall q m hq;have hpr:∀q,Gz pl R (P++[(i,c)]) (fun q=>pl r' (p++q)) r' q=pl r' q:=fun q=>G0 fun k=>hne k.1;exact⟨a.move (hpr _) (fun _ _ _ _ _ _=>hpr _) fun _ _=>rfl,b.move (hpr _) fun b o hb'=>⟨Tj hb' fun k=>hnp k.2,id,rfl⟩⟩
   ·rw[Sm hrr]at hy;obtain⟨hr',hok'⟩:=h.roots r' y hy;refine⟨hr',Keep.root ⟨fun b o q hb=>⟨Tj hb fun k=>hrr k.1,rfl,rfl⟩,fun _ _ _=>rfl,fun q=>?_⟩ hκ hok'⟩;exact G0 (by rintro ⟨rfl,_⟩;exact hneR rfl)
end
end Go.Vs
namespace Go.Vs
variable [Glb]
def Gj (w:World) (b:Nat):Nat->List Value->World
 | _,[]=>w
 | o,v::vs=>Gj (w.setCell ⟨b,o,none⟩ v) b (o+1) vs
theorem Zd3 (b:Nat){b' o':Nat}:∀(vs:List Value) (w:World) (o:Nat),¬(b'=b/\o<=o'/\o'<o+vs.length)->(Gj w b o vs).cell? ⟨b',o',none⟩=w.cell? ⟨b',o',none⟩
 | [],_,_,_=>rfl
 | v::vs,w,o,h=>by
  rw[Gj,Zd3 b vs _ _ (by simp only[Kh]at h;omega),Gq (by simp only[Kh]at h;omega)]
theorem Zkr (b:Nat):∀(vs:List Value) (w:World) (o:Nat),(∀j,j<vs.length->∃u,w.cell? ⟨b,o+j,none⟩=some u)->∀(j:Nat) (v:Value),vs[j]? = some v->(Gj w b o vs).cell? ⟨b,o+j,none⟩=some v
 | [],_,_,_,j,v,h=>by simp at h
 | x::vs,w,o,hex,j,v,h=>by
  rw[Gj];obtain⟨u,hu⟩:=hex 0 (by simp);cases j with
  | zero =>
   simp at h;subst h;rw[Zd3 b vs _ _ (by omega)];exact World.cell?_setCell_same w _ _ (by simpa using hu)
  | succ j =>
   have:=Zkr b vs (w.setCell ⟨b,o,none⟩ x) (o+1) (fun k hk=>by
    obtain⟨u',hu'⟩:=hex (k+1) (by simp;omega);exact⟨u',by rw[Gq (by omega)];rwa [show o+1+k=o+(k+1) by omega]⟩) j v (by simpa using h)
   rwa [show o+1+j=o+(j+1) by omega]at this
theorem Zdq {P:Program}(b:Nat):∀(vs:List Value) (w:World) (o k:Nat),(∀v∈vs,v.oneCell'=true) ->
  (∀j,j<vs.length->(∃u,w.cell? ⟨b,o+k+j,none⟩=some u)/\w.frozen? ⟨b,o+k+j,none⟩=false) ->
  (storeCells ⟨b,o,none⟩ vs k).run P w=.ok () (Gj w b (o+k) vs)
 | [],w,o,k,_,_=>by simp [storeCells,Gj]
 | v::vs,w,o,k,h1,hex=>by
  obtain⟨⟨u,hu⟩,hf⟩:=hex 0 (by simp);simp only[Kba]at hu hf;have ih:=Zdq (P:=P) b vs (w.setCell ⟨b,o+k,none⟩ v) o (k+1) (fun x hx=>h1 x (by simp [hx])) (fun j hj=>by
   obtain⟨⟨u',hu'⟩,hf'⟩:=hex (j+1) (by simp;omega);rw[show o+k+(j+1)=o+(k+1)+j by omega]at hu' hf';exact⟨⟨u',by rw[Gq (by omega)];exact hu'⟩,by rw[World.frozen?_setCell];exact hf'⟩)
  simp only[storeCells,Sem.run_bind,Addr.add_lit];rw[run_store P w _ v _ (h1 v (by simp)),hu];simp only[hf,Kka,if_false,Result.andThen_ok];rw[ih];rfl
section
variable {w0:World} {own0:Nat->Nat->Prop} {pl0:Pls} {g:Lab} {pl:Pls} {roots:List (Nat×Root)} {nx nc fix:Nat} {w:World}
theorem Hp.setSpare (h:Hp w0 own0 pl0 g pl roots nx nc fix w){r sz:Nat}{es:List (List D)}(hr:get roots r=some (.tr sz es)){j:Nat}(h1:es.length*sz<=j) (h2:j<(pl r []).cap*sz) (u:Value) :
  Hp w0 own0 pl0 g pl roots nx nc fix (w.setCell ⟨(pl r []).b,(pl r []).off+j,none⟩ u):=by
 obtain⟨hrn,hok⟩:=h.roots r _ hr;obtain⟨hc,hm⟩:=hok [] _ rfl;have hg:=hm.lab hc h2;obtain⟨_,⟨v,hv⟩,_⟩:=hm j (by rw[hc.szp];exact h2);have hlab:=h.lab _ _ _ hg;refine⟨h.fr.setCell hlab.2.1 u, ?_,h.fixed,h.fixle,h.ncle, ?_⟩
 ·intro b o x hx;rw[World.size_setCell];exact h.lab b o x hx
 ·intro r' x hx;by_cases hrr:r'=r
  ·subst hrr;rw[hr]at hx;simp only[Ka]at hx;subst hx;refine⟨hrn, ?_⟩;intro q m hq;obtain⟨hc0,hm0⟩:=hok q m hq;refine⟨hc0.move rfl (fun _ _ _ _ _ _=>rfl) fun k hk=>?_,hm0.move rfl fun b o hb'=>⟨hb',fun ⟨z,hz⟩=>?_,World.frozen?_setCell ..⟩⟩
   ·refine Gq ?_;rintro ⟨e1,e2⟩;by_cases hq0:q=[]
    ·subst hq0;simp only[Al,Ka]at hq;subst hq;simp only at hk;omega
    ·have:=hm0.lab hc0 (j:=k) (by have:=Kwb m.1 hc0.le;omega);rw[<-e1,<-e2,hg]at this;simp only[Ka,Kb,true_and]at this;exact hq0 this.symm
   ·by_cases heq:(pl r' []).b=b/\(pl r' []).off+j=o
    ·obtain⟨rfl,rfl⟩:=heq;exact⟨u,World.cell?_setCell_same w _ u hv⟩
    ·exact⟨z,by rw[Gq heq];exact hz⟩
  ·obtain⟨hr',hok'⟩:=h.roots r' x hx;exact⟨hr',(Zqy h hg u hrr).root' (fun _ _ k=>k) hok'⟩
theorem Hp.setSpares {r sz:Nat}{es:List (List D)}(hr:get roots r=some (.tr sz es)):∀(vs:List Value) (w:World) (j:Nat),Hp w0 own0 pl0 g pl roots nx nc fix w->es.length*sz<=j->j+vs.length<=(pl r []).cap*sz ->
  Hp w0 own0 pl0 g pl roots nx nc fix (Gj w (pl r []).b ((pl r []).off+j) vs)
 | [],_,_,h,_,_=>h
 | v::vs,w,j,h,h1,h2=>by
  rw[Gj];simp only[Kh]at h2;exact Hp.setSpares hr vs _ (j+1) (h.setSpare hr h1 (by omega) v) (by omega) (by omega)
theorem Hp.congr {w':World}(h:Hp w0 own0 pl0 g pl roots nx nc fix w) (hfr:Fr w0 own0 w') (hs:w'.heap.size=w.heap.size)
  (hl:∀b o x,g b o=some x->w'.cell? ⟨b,o,none⟩=w.cell? ⟨b,o,none⟩/\w'.frozen? ⟨b,o,none⟩=w.frozen? ⟨b,o,none⟩) (hst:∀b o,Eu w0 own0 b o->w'.cell? ⟨b,o,none⟩=w.cell? ⟨b,o,none⟩) :
  Hp w0 own0 pl0 g pl roots nx nc fix w' :=
 ⟨hfr,fun b o x hx=>by rw[hs];exact h.lab b o x hx,h.fixed,h.fixle,h.ncle,fun r x hx=>⟨(h.roots r x hx).1,Keep.root' (nx:=nc) ⟨fun b o q hb=>⟨hb,hl b o _ hb⟩,hst,fun _=>rfl⟩ (fun _ _ k=>k) (h.roots r x hx).2⟩⟩
theorem Hp.fresh (h:Hp w0 own0 pl0 g pl roots nx nc fix w) (arr:Array Value) (t:TypeId) (cap sz:Nat) (hs:arr.size=cap*sz) :
  Hp w0 own0 pl0 (Mo g w.heap.size nx fun o=>if o<cap*sz then some [] else none) (Ec pl nx fun _=>⟨false,w.heap.size,0,cap,sz,none⟩) ((nx,.tr sz [])::roots) (nx+1) nc fix (w.alloc (.cells arr t)):=by
 refine h.new _ _ _ _ ?_;intro p n hn;cases p with
 | nil =>
  simp only[Al,Ka]at hn;subst hn;refine⟨⟨by rw[B1],by simp,by rw[B1];simp,by simp,by simp⟩, ?_⟩;intro j hj;rw[B1]at hj ⊢;simp only at hj ⊢;refine⟨by simp [Mo,hj], ?_,by simp⟩;have:0+j<arr.size:=by omega
  exact⟨arr[0+j],by simp [this]⟩
 | cons a p=>obtain⟨i,c⟩:=a;simp [Al]at hn
theorem Hp.rename (h:Hp w0 own0 pl0 g pl roots nx nc fix w){r sz:Nat}{es:List (List D)}(hr:get roots r=some (.tr sz es)) :
  Hp w0 own0 pl0 (Jo g r [] nx []) (Ec pl nx (pl r)) ((nx,.tr sz es)::del roots r) (nx+1) nc fix w:=by
 obtain⟨hrn,hok⟩:=h.roots r _ hr;refine⟨h.fr, ?_, ?_,by have:=h.fixle;omega,by have:=h.ncle;omega, ?_⟩
 ·intro b o x hx;obtain⟨y,hy,hxy⟩:=Ziu hx;obtain⟨a,b',c'⟩:=h.lab b o y hy;refine⟨a,b', ?_⟩;rcases hxy with e|rfl
  ·rw[e];omega
  ·omega
 ·intro r' q hr';rw[Ch pl nx _ r' q (by have:=h.fixle;omega)];exact h.fixed r' q hr'
 ·intro r' x hx;simp only[get]at hx;split at hx
  ·rename_i e';subst e';simp only[Ka]at hx;subst hx;refine⟨by omega, ?_⟩;intro q m hq;obtain⟨a,b⟩:=hok q m hq;exact⟨a.move (B1 ..) (fun _ _ _ _ _ _=>B1 ..) fun _ _=>rfl,b.move (B1 ..) fun b o hb=>⟨by have:=Zit (p:=[]) (R:=nx) (P:=[]) (q:=q) hb;simpa using this,id,rfl⟩⟩
  ·rename_i hne;rw[Ga]at hx;split at hx
   ·simp at hx
   ·rename_i hne2;obtain⟨hr',hok'⟩:=h.roots r' x hx;refine⟨by omega,Keep.root' ⟨fun b o q hb=>⟨Tj hb fun k=>hne2 k.1.symm,rfl,rfl⟩,fun _ _ _=>rfl,fun q=>Ch pl nx _ r' q hr'⟩ (fun x v k=>k.agree fun r p hr=>Ch pl nx _ r p (by have:=h.ncle;omega)) hok'⟩
def Qq (g:Lab) (B nx r:Nat):Lab:=fun b o =>
 if b=B then some (nx,[]) else
 match g b o with
 | some (r',q)=>if r'=r/\q≠[] then some (nx,q) else some (r',q)
 | none=>none
theorem Hp.grow (h:Hp w0 own0 pl0 g pl roots nx nc fix w){r sz:Nat}{es:List (List D)}(hr:get roots r=some (.tr sz es)) (arr:Array Value) (t:TypeId) (cap:Nat) (hs:arr.size=cap*sz) (hcap:es.length<=cap)
  (hcp:∀j v,j<es.length*sz->w.cell? ⟨(pl r []).b,(pl r []).off+j,none⟩=some v->arr[j]? = some v) :
  Hp w0 own0 pl0 (Qq g w.heap.size nx r) (Ec pl nx fun q=>if q=[] then ⟨false,w.heap.size,0,cap,sz,none⟩ else pl r q) ((nx,.tr sz es)::del roots r) (nx+1) nc fix (w.alloc (.cells arr t)):=by
 obtain⟨hrn,hok⟩:=h.roots r _ hr;obtain⟨hc,hm⟩:=hok [] _ rfl;have hsz:=h.fr.size;have hgl:∀b o r' q,g b o=some (r',q)->¬(r'=r/\q≠[])->Qq g w.heap.size nx r b o=some (r',q):=by
  intro b o r' q hb hn;unfold Qq;rw[if_neg (h.lab_ne hb),hb];simp only[hn,if_false]
 have hgl2:∀b o q,g b o=some (r,q)->q≠[]->Qq g w.heap.size nx r b o=some (nx,q):=by
  intro b o q hb hn;unfold Qq;rw[if_neg (h.lab_ne hb),hb];simp [hn]
 have hcl:∀b o x,g b o=some x->(w.alloc (.cells arr t)).cell? ⟨b,o,none⟩=w.cell? ⟨b,o,none⟩/\(w.alloc (.cells arr t)).frozen? ⟨b,o,none⟩=w.frozen? ⟨b,o,none⟩:=fun b o x hb =>
  ⟨World.cell?_alloc_old w _ _ (by simpa using h.lab_ne hb),World.frozen?_alloc_old w _ _ (by simpa using h.lab_ne hb)⟩
 refine⟨h.fr.alloc _, ?_, ?_,by have:=h.fixle;omega,by have:=h.ncle;omega, ?_⟩
 ·intro b o x hx;unfold Qq at hx;split at hx
  ·rename_i hb;subst hb;simp only[Ka]at hx;subst hx;exact⟨by simp,.inl hsz,by simp⟩
  ·split at hx
   ·rename_i r' q hb;obtain⟨a,b',c'⟩:=h.lab b o _ hb;simp only at c';split at hx
    ·simp only[Ka]at hx;subst hx;exact⟨by simp;omega,b',by simp⟩
    ·simp only[Ka]at hx;subst hx;exact⟨by simp;omega,b',by simp only;omega⟩
   ·simp at hx
 ·intro r' q hr';rw[Ch pl nx _ r' q (by have:=h.fixle;omega)];exact h.fixed r' q hr'
 ·intro r' x hx;simp only[get]at hx;split at hx
  ·rename_i e';subst e';simp only[Ka]at hx;subst hx;refine⟨by omega, ?_⟩;intro q m hq;by_cases hq0:q=[]
   ·subst hq0;simp only[Al,Ka]at hq;subst hq;have hp0:=B1 pl nx (fun q=>if q=[] then ⟨false,w.heap.size,0,cap,sz,none⟩ else pl r q) [];simp only[if_true]at hp0;refine⟨⟨by rw[hp0],by rw[hp0];exact hcap,by rw[hp0];simp,hc.szs, ?_⟩, ?_⟩
    ·intro i e c d he hd;obtain⟨v,hv,hdv⟩:=hc.cells i e c d he hd;have hb:=hc.bound he hd;refine⟨v, ?_, ?_⟩
     ·rw[hp0];simp only[Kp];rw[World.cell?_alloc_new];exact hcp _ v hb.2.2.2 hv
     ·rw[B1];simp only[Ks,Krf,if_false];exact hdv
    ·intro j hj;rw[hp0]at hj ⊢;simp only at hj ⊢;refine⟨by simp [Qq], ?_,by simp⟩;have:0+j<arr.size:=by omega
     exact⟨arr[0+j],by simp [this]⟩
   ·obtain⟨a,b⟩:=hok q m hq;have hpq:Ec pl nx (fun q=>if q=[] then ⟨false,w.heap.size,0,cap,sz,none⟩ else pl r q) nx q=pl r q:=by rw[B1,if_neg hq0]
    refine⟨a.move hpq (fun j k _ _ _ _=>by rw[B1,if_neg (by simp)]) fun j hj=>?_,b.move hpq fun b o hb=>⟨hgl2 b o q hb hq0,fun ⟨z,hz⟩=>⟨z,by rw[(hcl _ _ _ hb).1];exact hz⟩,(hcl _ _ _ hb).2⟩⟩;exact (hcl _ _ _ (b.lab a (by have:=Kwb m.1 a.le;omega))).1
  ·rename_i hne;rw[Ga]at hx;split at hx
   ·simp at hx
   ·rename_i hne2;obtain⟨hr',hok'⟩:=h.roots r' x hx;refine⟨by omega,Keep.root' ⟨fun b o q hb=>⟨hgl _ _ _ _ hb fun k=>hne2 k.1.symm,(hcl _ _ _ hb).1,(hcl _ _ _ hb).2⟩,fun b o hst=>?_,fun q=>Ch pl nx _ r' q hr'⟩ (fun x v k=>k.agree fun r p hr=>Ch pl nx _ r p (by have:=h.ncle;omega)) hok'⟩;exact World.cell?_alloc_old w _ _ (by simp;have:=hst.1;omega)
end
end Go.Vs
namespace Go.Vs
variable [Glb]
section
variable {w0:World} {own0:Nat->Nat->Prop} {pl0:Pls} {g:Lab} {pl:Pls} {roots:List (Nat×Root)} {nx nc fix:Nat} {w:World}
theorem Hp.detach (h:Hp w0 own0 pl0 g pl roots nx nc fix w){r:Nat}{p:Ad}{sz n sz0:Nat}{es:List (List D)}(hr:get roots r=some (.tr sz0 es)){es1:List (List D)}(hp:Al sz0 es p=some (sz,es1)) :
  Hp w0 own0 pl0 (Jo g r p nx []) (Ec pl nx fun q=>pl r (p++q)) ((nx,.tr sz (es1.take n))::D2 roots r p) (nx+1) nc fix w:=by
 obtain⟨hrn,hokr⟩:=h.roots r _ hr;refine⟨h.fr, ?_, ?_,by have:=h.fixle;omega,by have:=h.ncle;omega, ?_⟩
 ·intro b o x hx;obtain⟨y,hy,hxy⟩:=Ziu hx;obtain⟨a,b',c'⟩:=h.lab b o y hy;refine⟨a,b', ?_⟩;rcases hxy with e|rfl
  ·rw[e];omega
  ·omega
 ·intro r' q hr';rw[Ch pl nx _ r' q (by have:=h.fixle;omega)];exact h.fixed r' q hr'
 ·intro r' x hx;simp only[get]at hx;split at hx
  ·rename_i e';subst e';simp only[Ka]at hx;subst hx;refine⟨by omega, ?_⟩;intro q m hq;have hold:NodeC w pl r (p++q) m.1 m.2/\L4 w g pl r (p++q):=by
    rcases Zvj hq with ⟨rfl,rfl⟩|⟨_,hn''⟩
    ·obtain⟨a,b⟩:=hokr p _ hp;rw[Kv];exact⟨a.take n,b⟩
    ·exact hokr (p++q) m (by rw[Li,hp];exact hn'')
   refine⟨hold.1.move (B1 ..) (fun j k _ _ _ _=>?_) fun j hj=>rfl,hold.2.move (B1 ..) fun b o hb'=>⟨?_,id,rfl⟩⟩
   ·rw[B1,Klb]
   ·have:=Zit (R:=nx) (P:=[]) hb';simpa using this
  ·by_cases hrr:r'=r
   ·subst hrr;obtain⟨es',rfl,hall⟩:=Zn4 h hr hp hx;refine⟨by omega, ?_⟩;intro q m hq;obtain⟨a,b,hnp⟩:=hall q m hq;exact⟨a.move (Ch _ _ _ _ _ hrn) (fun _ _ _ _ _ _=>Ch _ _ _ _ _ hrn) fun _ _=>rfl,b.move (Ch _ _ _ _ _ hrn) fun b o hb'=>⟨Tj hb' fun k=>hnp k.2,id,rfl⟩⟩
   ·rw[Sm hrr]at hx;obtain⟨hr',hok'⟩:=h.roots r' x hx;exact⟨by omega,Keep.root' ⟨fun b o q hb=>⟨Tj hb fun k=>hrr k.1,rfl,rfl⟩,fun _ _ _=>rfl,fun q=>Ch _ _ _ _ _ hr'⟩ (fun x v k=>k.agree fun r p hr=>Ch pl nx _ r p (by have:=h.ncle;omega)) hok'⟩
theorem Hp.trim (h:Hp w0 own0 pl0 g pl roots nx nc fix w){n:Nat}(hn:nc<=n) (hf:fix<=n) (hr:∀r x,get roots r=some x->r<n) :
  Hp w0 own0 pl0 (fun b o=>(g b o).bind fun x=>if x.1<n then some x else none) pl roots n nc fix w:=by
 refine⟨h.fr, ?_,h.fixed,hf,hn, ?_⟩
 ·intro b o x hx;simp only[Kf]at hx;obtain⟨y,hy,hx⟩:=hx;split at hx
  ·rename_i hlt;simp only[Ka]at hx;subst hx;obtain⟨a,b',_⟩:=h.lab b o y hy;exact⟨a,b',hlt⟩
  ·simp at hx
 ·intro r x hx;obtain⟨hr',hok'⟩:=h.roots r x hx;have hrn:=hr r x hx;refine⟨hrn,Keep.root' ⟨fun b o q hb=>⟨?_,rfl,rfl⟩,fun _ _ _=>rfl,fun _=>rfl⟩ (fun _ _ k=>k) hok'⟩;simp [hb,hrn]
def N8:D->D
 | .lf v=>.lf v
 | _=>.hole
def K3 (lo m:Nat) (l:List (List D)):List (List D):=l.take lo++(((l.drop lo).take m).map (·.map N8)++l.drop (lo+m))
theorem Zcd {lo m:Nat}{l:List (List D)}(hm:lo+m<=l.length) (i:Nat) :
  (K3 lo m l)[i]? = if lo<=i/\i<lo+m then (l[i]?).map (·.map N8) else l[i]?:=by
 unfold K3;by_cases h1:i<lo
 ·rw[Kpa (by simp;omega),Ksa,if_pos h1,if_neg (by omega)]
 ·rw[Kfa (by simp;omega)];have e1:(l.take lo).length=lo:=by simp;omega
  rw[e1];by_cases h2:i<lo+m
  ·rw[Kpa (by simp;omega),if_pos ⟨by omega,h2⟩];simp only[Kz,Ksa,Kva];rw[if_pos (by omega),show lo+(i-lo)=i by omega]
  ·rw[Kfa (by simp;omega),if_neg (by omega)];have e2:(((l.drop lo).take m).map (·.map N8)).length=m:=by simp;omega
   rw[e2,Kva];congr 1;omega
theorem Zqc {lo m:Nat}{l:List (List D)}(hm:lo+m<=l.length):(K3 lo m l).length=l.length:=by simp [K3];omega
def Mn (g:Lab) (ry:Nat) (py:Ad) (lo m R k0:Nat):Lab:=fun b o =>
 match g b o with
 | some (r',q)=>if r'=ry/\py <+: q then
   match q.drop py.length with
   | (i,c)::q'=>if lo<=i/\i<lo+m then some (R,(k0+(i-lo),c)::q') else some (r',q)
   | []=>some (r',q)
  else some (r',q)
 | none=>none
def G1 (pl:Pls) (ry:Nat) (py:Ad) (lo R k0:Nat):Pls:=fun r q =>
 if r=R then match q with
  | (i,c)::q'=>if k0<=i then pl ry (py++(lo+(i-k0),c)::q') else pl r q
  | []=>pl r q
 else pl r q
theorem Yh1 {g:Lab}{ry:Nat}{py:Ad}{lo m R k0:Nat}{b o i c:Nat}{q:Ad}(h:g b o=some (ry,py++(lo+i,c)::q)) (hi:i<m):Mn g ry py lo m R k0 b o=some (R,(k0+i,c)::q):=by
 unfold Mn;rw[h];simp only[true_and,Kie,if_true,Kze];rw[if_pos ⟨by omega,by omega⟩];congr 4;omega
theorem Zir {g:Lab}{ry:Nat}{py:Ad}{lo m R k0:Nat}{b o r':Nat}{q:Ad}(h:g b o=some (r',q)) (hn:r'≠ry):Mn g ry py lo m R k0 b o=some (r',q):=by
 unfold Mn;rw[h];simp only[hn,false_and,if_false]
theorem Zis {g:Lab}{ry:Nat}{py:Ad}{lo m R k0:Nat}{b o:Nat}{q:Ad}(h:g b o=some (ry,q)) (hn:∀i c q',lo<=i->i<lo+m->q≠py++(i,c)::q'):Mn g ry py lo m R k0 b o=some (ry,q):=by
 unfold Mn;rw[h];simp only[true_and];split
 ·rename_i hpre;obtain⟨s,rfl⟩:=hpre;rw[Kze];cases s with
  | nil=>rfl
  | cons a s =>
   obtain⟨i,c⟩:=a;simp only;rw[if_neg];rintro ⟨h1,h2⟩;exact hn i c s h1 h2 rfl
 ·rfl
theorem Yh2 {g:Lab}{ry:Nat}{py:Ad}{lo m R k0:Nat}{b o:Nat}{x:Nat×Ad}(h:Mn g ry py lo m R k0 b o=some x):∃y,g b o=some y/\(x.1=R\/x=y):=by
 unfold Mn at h;split at h
 ·rename_i r' q hg;refine⟨_,hg, ?_⟩;split at h
  ·split at h
   ·split at h
    ·simp only[Ka]at h;subst h;exact .inl rfl
    ·simp only[Ka]at h;exact .inr h.symm
   ·simp only[Ka]at h;exact .inr h.symm
  ·simp only[Ka]at h;exact .inr h.symm
 ·simp at h
theorem Hp.extendMove (h:Hp w0 own0 pl0 g pl roots nx nc fix w){R sz:Nat}{es:List (List D)}(hR:get roots R=some (.tr sz es)) (hfix:fix<=R) (hnc:nc<=R)
  {ry:Nat} (hne:ry≠R) {py:Ad} {sz0:Nat} {es0:List (List D)} (hry:get roots ry=some (.tr sz0 es0)) {l:List (List D)} (hpy:Al sz0 es0 py=some (sz,l)) {lo m:Nat} (hlm:lo+m<=l.length)
  (hle:es.length+m<=(pl R []).cap)
  (hN:∀(i c:Nat) (v:Value),i<m->c<sz->w.cell? ⟨(pl ry py).b,(pl ry py).off+((lo+i)*sz+c),none⟩=some v->w.cell? ⟨(pl R []).b,(pl R []).off+((es.length+i)*sz+c),none⟩=some v) :
  Hp w0 own0 pl0 (Mn g ry py lo m R es.length) (G1 pl ry py lo R es.length)
   (put (put roots ry (.tr sz0 (Dm es0 py (K3 lo m)))) R (.tr sz (es++(l.drop lo).take m))) nx nc fix w:=by
 obtain⟨hRn,hokR⟩:=h.roots R _ hR;obtain⟨hryn,hoky⟩:=h.roots ry _ hry;obtain⟨hc,hm⟩:=hokR [] _ rfl;obtain⟨hcy,hmy⟩:=hoky py _ hpy;have hplR:∀i c q',i<es.length->G1 pl ry py lo R es.length R ((i,c)::q')=pl R ((i,c)::q'):=by
  intro i c q' hi;unfold G1;simp [show ¬es.length<=i by omega]
 have hplR0:G1 pl ry py lo R es.length R []=pl R []:=by unfold G1;simp
 have hplRy:∀i c q',G1 pl ry py lo R es.length R ((es.length+i,c)::q')=pl ry (py++(lo+i,c)::q'):=by
  intro i c q';unfold G1;simp
 have hplo:∀r q,r≠R->G1 pl ry py lo R es.length r q=pl r q:=by
  intro r q hr;unfold G1;simp [hr]
 refine⟨h.fr, ?_, ?_,h.fixle,h.ncle, ?_⟩
 ·intro b o x hx;obtain⟨y,hy,hxy⟩:=Yh2 hx;obtain⟨a,b',c'⟩:=h.lab b o y hy;refine⟨a,b', ?_⟩;rcases hxy with e|rfl
  ·rw[e];exact hRn
  ·exact c'
 ·intro r' q hr';rw[hplo _ _ (by omega)];exact h.fixed r' q hr'
 ·intro r' x hx;rw[Au]at hx;split at hx
  ·rename_i e';subst e';simp only[Ka]at hx;subst hx;refine⟨hRn, ?_⟩;intro q n hq;cases q with
   | nil =>
    simp only[Al,Ka]at hq;subst hq;refine⟨⟨by rw[hplR0];exact hc.szp,by rw[hplR0];simp;omega,by rw[hplR0];exact hc.nil, ?_, ?_⟩,hm.move hplR0 fun b o hb=>⟨Zir hb (fun e=>hne e.symm),id,rfl⟩⟩
    ·intro e he;simp only[Kea]at he;rcases he with he|he
     ·exact hc.szs e he
     ·exact hcy.szs e (Kib (Kkb he))
    ·intro i e c d he hd;rw[hplR0];by_cases hi:i<es.length
     ·rw[Kpa hi]at he;obtain⟨v,hv,hdv⟩:=hc.cells i e c d he hd;exact⟨v,hv,by rw[Ks,hplR i c [] hi];exact hdv⟩
     ·rw[Kfa (by omega)]at he;have hlt:=getElem?_lt he;simp only[Kta,Kia]at hlt;have he':=K1 rfl _ _ he;obtain⟨v,hv,hdv⟩:=hcy.cells _ e c d he' hd;have hb:=hcy.bound he' hd;have:=hN (i-es.length) c v (by omega) hb.2.1 hv;rw[show es.length+(i-es.length)=i by omega]at this;refine⟨v,this, ?_⟩;have e2:=hplRy (i-es.length) c [];rw[show es.length+(i-es.length)=i by omega]at e2;rw[Ks,e2];exact hdv
   | cons a q =>
    obtain⟨i,c⟩:=a;unfold Al at hq;by_cases hi:i<es.length
    ·rw[Kpa hi]at hq;obtain⟨a,b⟩:=hokR ((i,c)::q) n (by unfold Al;exact hq);exact⟨a.move (hplR i c q hi) (fun j k _ _ _ _=>hplR i c _ hi) fun _ _=>rfl,b.move (hplR i c q hi) fun b o hb=>⟨Zir hb (fun e=>hne e.symm),id,rfl⟩⟩
    ·rw[Kfa (by omega)]at hq;split at hq
     ·rename_i sz' es' hb;simp only[Kf]at hb;obtain⟨e,he,hd⟩:=hb;have hlt:=getElem?_lt he;simp only[Kta,Kia]at hlt;have he':=K1 rfl _ _ he;obtain⟨a,b⟩:=hoky (py++(lo+(i-es.length),c)::q) n (by
       rw[Li,hpy];simp only[Koa,Al,he',hd];exact hq)
      have e2:∀s,G1 pl ry py lo R es.length R ((i,c)::s)=pl ry (py++(lo+(i-es.length),c)::s):=by
       intro s;have:=hplRy (i-es.length) c s
       rwa [show es.length+(i-es.length)=i by omega]at this
      refine⟨a.move (e2 q) (fun j k _ _ _ _=>?_) fun _ _=>rfl,b.move (e2 q) fun b o hb=>⟨?_,id,rfl⟩⟩
      ·have:=e2 (q++[(j,k)]);simpa using this
      ·have:=Yh1 (R:=R) (k0:=es.length) hb (show i-es.length<m by omega)
       rwa [show es.length+(i-es.length)=i by omega]at this
     ·simp at hq
  ·rename_i hneR;rw[Au]at hx;split at hx
   ·rename_i e';subst e';simp only[Ka]at hx;subst hx;refine⟨hryn, ?_⟩;intro q n hq;have hpr:∀q,G1 pl ry py lo R es.length ry q=pl ry q:=fun q=>hplo _ _ hne;rcases Zeq (f:=K3 lo m) hpy (Zqc hlm) q n hq with ⟨q',rfl,hn'⟩|⟨m0,h1,h2,h3,h4⟩
    ·cases q' with
     | nil =>
      simp only[Al,Ka]at hn';subst hn';rw[Kv];refine⟨⟨by rw[hpr];exact hcy.szp,by rw[hpr,Zqc hlm];exact hcy.le,by rw[hpr];exact hcy.nil, ?_, ?_⟩,hmy.move (hpr _) fun b o hb=>⟨Zis hb fun i c q' _ _ e=>?_,id,rfl⟩⟩
      ·intro e he;obtain⟨i,hi⟩:=Kgc he;rw[Zcd hlm]at hi;split at hi
       ·simp only[Ku]at hi;obtain⟨x,hx,rfl⟩:=hi;simpa using hcy.szs x (Ky hx)
       ·exact hcy.szs e (Ky hi)
      ·intro i e c d he hd;rw[hpr,hpr];rw[Zcd hlm]at he;split at he
       ·simp only[Ku]at he;obtain⟨x,hx,rfl⟩:=he;simp only[Kz,Ku]at hd;obtain⟨y,hy,rfl⟩:=hd;obtain⟨v,hv,hdv⟩:=hcy.cells i x c y hx hy;refine⟨v,hv, ?_⟩;cases y with
        | lf x=>exact hdv
        | _=>exact hdv.one
       ·exact hcy.cells i e c d he hd
      ·have:=congrArg List.length e;simp at this
     | cons a q' =>
      obtain⟨i,c⟩:=a;unfold Al at hn';by_cases hin:lo<=i/\i<lo+m
      ·exfalso;rw[Zcd hlm,if_pos hin]at hn';split at hn'
       ·rename_i sz' es' hb;simp only[Kf,Ku]at hb;obtain⟨_,⟨e,he,rfl⟩,hd⟩:=hb;simp only[Kz,Ku]at hd;obtain⟨y,_,hd⟩:=hd;cases y<;>cases hd
       ·simp at hn'
      ·rw[Zcd hlm,if_neg hin]at hn';obtain⟨a,b⟩:=hoky (py++(i,c)::q') n (by rw[Li,hpy];unfold Al;exact hn');refine⟨a.move (hpr _) (fun _ _ _ _ _ _=>hpr _) fun _ _=>rfl,b.move (hpr _) fun b o hb=>⟨Zis hb fun j c' q'' h1 h2 e=>?_,id,rfl⟩⟩;rw[List.append_cancel_left_eq,List.cons.injEq,Kb]at e;obtain⟨⟨rfl,_⟩,_⟩:=e;exact hin ⟨h1,h2⟩
    ·obtain⟨a,b⟩:=hoky q m0 h1;rw[h3];refine⟨(a.sim h4).move (hpr _) (fun _ _ _ _ _ _=>hpr _) fun _ _=>rfl,b.move (hpr _) fun b o hb=>⟨Zis hb fun j c' q'' _ _ e=>?_,id,rfl⟩⟩;rw[e]at h2;exact h2 (Kie _ _)
   ·rename_i hney;obtain⟨hr',hok'⟩:=h.roots r' x hx;refine⟨hr',Keep.root' ⟨fun b o q hb=>⟨Zir hb (fun e=>hney e.symm),rfl,rfl⟩,fun _ _ _=>rfl,fun q=>hplo _ _ (fun e=>hneR e.symm)⟩ (fun x v k=>k.agree fun r p hr=>hplo _ _ (by omega)) hok'⟩
end
end Go.Vs
namespace Go.Vs
variable [Glb]
def Ev (r:Nat) (pre:Ad):C->C
 | .rf r' q sz lo n=>if r'=r/\pre <+: q then .un else .rf r' q sz lo n
 | .pe r' q i c=>if r'=r/\pre <+: q then .un else .pe r' q i c
 | x=>x
def A8:List (Nat×Ad)->C->C
 | [],x=>x
 | k::ks,x=>A8 ks (Ev k.1 k.2 x)
def A.map (k:C->C):A->A
 | .c x=>.c (k x)
 | .ag cs=>.ag (cs.map k)
def V.map (k:C->C):V->V
 | .un=>.un
 | .a x=>.a (x.map k)
 | .tp xs=>.tp (xs.map (A.map k))
 | .fn f caps=>.fn f (caps.map (A.map k))
 | .sb r n=>match k (.pb r 0) with
  | .pb r' 0=>.sb r' n
  | _=>.un
def W8 (r:Nat) (pre:Ad) (roots:List (Nat×Root)):List (Nat×Root):=roots.map fun x=>(x.1,x.2.map (Ev r pre))
def Cf (ks:List (Nat×Ad)) (env:List (Nat×V)):List (Nat×V) :=
 match ks with
 | []=>env
 | k::ks=>Cf ks (env.map fun x=>(x.1,x.2.map (Ev k.1 k.2)))
def C4 (roots:List (Nat×Root)):C->Option (D×List (Nat×Root))
 | .lf v=>some (.lf v,roots)
 | .nl sz=>some (.sl sz [],roots)
 | .rf r p sz 0 n =>
  match get roots r with
  | some (.tr sz0 es)=>match Al sz0 es p with
   | some (sz',es1)=>if sz'=sz/\n<=es1.length then some (.sl sz (es1.take n),D2 roots r p) else none
   | none=>none
  | _=>none
 | _=>none
def Cs:List (Nat×Root)->List C->Option (List D×List (Nat×Root))
 | roots,[]=>some ([],roots)
 | roots,c::cs =>
  match C4 roots c with
  | some (d,roots1)=>match Cs roots1 cs with
   | some (ds,roots2)=>some (d::ds,roots2)
   | none=>none
  | none=>none
def S6 (sz0:Nat) (es:List (List D)) (p:Ad) (i c:Nat):Bool :=
 match (Al sz0 es p).bind (·.2[i]?) with
 | some e=>decide (c<e.length)
 | none=>false
def G2 (fix r:Nat) (p:Ad) (i:Nat):List C->List (Nat×Root)->Nat->List (Nat×Ad)->Option (List (Nat×Root)×List (Nat×Ad))
 | [],roots,_,ks=>some (roots,ks)
 | y::ys,roots,c,ks =>
  match A8 ks y with
  | .lf u=>match get roots r with
   | some (.tr sz0 es)=>G2 fix r p i ys (put roots r (.tr sz0 (Dz es p i c (.lf u)))) (c+1) ks
   | _=>none
  | y=>match C4 roots y with
   | some (d,roots1)=>match get roots1 r with
    | some (.tr sz0 es)=>if fix<=r/\S6 sz0 es p i (c+ys.length)=true then G2 fix r p i ys (put (W8 r (p++[(i,c)]) roots1) r (.tr sz0 (Dz es p i c d))) (c+1) (ks++[(r,p++[(i,c)])]) else none
    | _=>none
   | none=>none
def D1 {α:Type}(sz:Nat):Nat->List α->List (List α)
 | 0,_=>[]
 | n+1,l=>l.take sz::D1 sz n (l.drop sz)
def Pe:C->D
 | .lf v=>.lf v
 | .nl sz=>.sl sz []
 | _=>.hole
def Zet:C->D
 | .lf v=>.lf v
 | _=>.hole
def Q1:C->Bool
 | .lf _=>true
 | .nl _=>true
 | _=>false
def rep {α:Type}(n:Nat) (l:List α):List α :=
 match n with
 | 0=>[]
 | n+1=>l++rep n l
def W6:D->Bool
 | .lf _=>true
 | _=>false
def V0 (E:List (List D)):Bool:=E.all (·.all W6)
def Hm (s:ByteArray):List (List D):=s.data.toList.map fun b=>[.lf (.int .u8 b.toNat)]
def Nm (roots:List (Nat×Root)):V->Option (Nat×List (List D)×Option Nat)
 | .a (.c (.nl sz))=>some (sz,[],none)
 | .a (.c (.rf r [] sz 0 n))=>match get roots r with
  | some (.tr sz0 es)=>if sz0=sz/\n=es.length then some (sz,es,some r) else none
  | _=>none
 | _=>none
def Dk (roots:List (Nat×Root)):Option Nat->List (Nat×Root)
 | none=>roots
 | some r=>del roots r
def wr (S:St) (K:V->List (Nat×Ad)->List (Nat×Root)->Nat->Prop):W->Prop
 | .alloc zero=>K (.a (.c (.pb S.next 0))) [] ((S.next,.bx zero)::S.roots) (S.next+1)
 | .box x=>∃ys,P2 (S.opd x)=some ys/\K (.a (.c (.pb S.next 0))) [] ((S.next,.bx ys)::S.roots) (S.next+1)
 | .store n x v=>match S.opd x with
  | .a (.c (.pb r c))=>∃ys,P2 (S.opd v)=some ys/\ys.length=n/\∃cs,get S.roots r=some (.bx cs)/\c+n<=cs.length/\K .un [] (put S.roots r (.bx (cs.take c++(ys++cs.drop (c+n))))) S.next
  | .a (.c (.pe r p i c))=>∃ys,P2 (S.opd v)=some ys/\ys.length=n/\∃e,((S.node r p).bind (·.2[i]?))=some e/\c+n<=e.length/\(∃sz0 es,get S.roots r=some (.tr sz0 es))/\∃res,G2 S.fix r p i ys S.roots c []=some res/\K .un res.2 res.1 S.next
  | _=>False
 | .mks sz bytes zero l c=>match S.opd l,S.opd c with
  | .a (.c (.lf (.int _ z))),.a (.c (.lf (.int _ z')))=>z'=z/\0<=z/\z*bytes<=140737488355328/\z<=9223372036854775807/\zero.all Q1=true/\K (.a (.c (.rf S.next [] sz 0 z.toNat))) [] ((S.next,.tr sz (List.replicate z.toNat (zero.map Pe)))::S.roots) (S.next+1)
  | _,_=>False
 | .lit sz len zero parts=>(∃cs,F8 S (rep len zero) (parts.map fun x=>(x.1*sz,sz,x.2))=some cs/\∃ds,Cs S.roots cs=some ds/\K (.a (.c (.rf S.next [] sz 0 len))) [] ((S.next,.tr sz (D1 sz len ds.1))::ds.2) (S.next+1)) \/
   (∃cs,F8 S (rep len zero) (parts.map fun x=>(x.1*sz,sz,x.2))=some cs/\K (.sb S.next len) [] ((S.next,.bx cs)::S.roots) (S.next+1))
 | .s2b x=>match S.opd x with
  | .a (.c (.lf (.string s)))=>K (.a (.c (.rf S.next [] 1 0 s.size))) [] ((S.next,.tr 1 (Hm s))::S.roots) (S.next+1)
  | _=>False
 | .app sz bytes _ x y=>∃b,Nm S.roots (S.opd x)=some b/\b.1=sz/\match S.opd y with
  | .a (.c (.nl _))=>b.2.1.length*bytes<=140737488355328/\K (.a (.c (.rf S.next [] sz 0 b.2.1.length))) [] ((S.next,.tr sz b.2.1)::Dk S.roots b.2.2) (S.next+1)
  | .a (.c (.rf ry py sz' lo m))=>sz'=sz/\some ry≠b.2.2/\(b.2.1.length+m)*bytes<=140737488355328/\∃l,S.node ry py=some (sz,l)/\lo+m<=l.length /\
    ((V0 ((l.drop lo).take m)=true/\K (.a (.c (.rf S.next [] sz 0 (b.2.1.length+m)))) [] ((S.next,.tr sz (b.2.1++(l.drop lo).take m))::Dk S.roots b.2.2) (S.next+1)) \/
     (∃sz0 es0,get S.roots ry=some (.tr sz0 es0)/\K (.a (.c (.rf S.next [] sz 0 (b.2.1.length+m)))) [] ((S.next,.tr sz (b.2.1++(l.drop lo).take m))::put (Dk S.roots b.2.2) ry (.tr sz0 (Dm es0 py (K3 lo m)))) (S.next+1)))
  | _=>False
 | .aps _ x y=>∃b,Nm S.roots (S.opd x)=some b/\b.1=1/\match S.opd y with
  | .a (.c (.lf (.string s)))=>b.2.1.length+s.size<=140737488355328/\K (.a (.c (.rf S.next [] 1 0 (b.2.1.length+s.size)))) [] ((S.next,.tr 1 (b.2.1++Hm s))::Dk S.roots b.2.2) (S.next+1)
  | _=>False
 | .clr sz zero x=>match S.opd x with
  | .a (.c (.rf r [] sz' lo n))=>sz'=sz/\∃es,get S.roots r=some (.tr sz es)/\lo+n=es.length/\K .un [] (put S.roots r (.tr sz (es.take lo++List.replicate n (zero.map Zet)))) S.next
  | .a (.c (.nl _))=>K .un [] S.roots S.next
  | _=>False
 | _=>False
end Go.Vs
namespace Go.Vs
variable [Glb]
def Zea (N:List (List D)) (i c:Nat):Nat :=
 match (N[i]?).bind (·[c]?) with
 | some (.sl s _)=>s
 | _=>0
def plZ (pl:Pls) (R:Nat) (N:List (List D)) (k0:Nat):Pls:=fun r q =>
 if r=R then match q with
  | (i,c)::_=>if k0<=i then ⟨true,0,0,0,Zea N (i-k0) c,none⟩ else pl r q
  | []=>pl r q
 else pl r q
section
variable {w0:World} {own0:Nat->Nat->Prop} {pl0:Pls} {g:Lab} {pl:Pls} {roots:List (Nat×Root)} {nx nc fix:Nat} {w:World}
theorem Hp.extendZ (h:Hp w0 own0 pl0 g pl roots nx nc fix w){r sz:Nat}{es:List (List D)}(hr:get roots r=some (.tr sz es)) (hfix:fix<=r) (hnc:nc<=r) (N:List (List D)) (hsz:∀e∈N,e.length=sz) (hle:es.length+N.length<=(pl r []).cap)
  (hN:∀(i:Nat) (e:List D) (c:Nat) (d:D),N[i]? = some e->e[c]? = some d->∃v,w.cell? ⟨(pl r []).b,(pl r []).off+((es.length+i)*sz+c),none⟩=some v/\((d=.lf v/\v.oneCell'=true)\/(∃s,d=.sl s []/\v=.slice none 0 0))) :
  Hp w0 own0 pl0 g (plZ pl r N es.length) (put roots r (.tr sz (es++N))) nx nc fix w:=by
 obtain⟨hrn,hok⟩:=h.roots r _ hr;obtain⟨hc,hm⟩:=hok [] _ rfl;have hp1:∀i c q',i<es.length->plZ pl r N es.length r ((i,c)::q')=pl r ((i,c)::q'):=by
  intro i c q' hi;unfold plZ;simp [show ¬es.length<=i by omega]
 have hp0:plZ pl r N es.length r []=pl r []:=by unfold plZ;simp
 have hp2:∀i c q',es.length<=i->plZ pl r N es.length r ((i,c)::q')=⟨true,0,0,0,Zea N (i-es.length) c,none⟩:=by
  intro i c q' hi;unfold plZ;simp [hi]
 have hpo:∀r' q,r'≠r->plZ pl r N es.length r' q=pl r' q:=by
  intro r' q hr';unfold plZ;simp [hr']
 refine⟨h.fr,h.lab, ?_,h.fixle,h.ncle, ?_⟩
 ·intro r' q hr';rw[hpo _ _ (by omega)];exact h.fixed r' q hr'
 intro r' x hx;rw[Au]at hx;split at hx
 ·rename_i e';subst e';simp only[Ka]at hx;subst hx;refine⟨hrn, ?_⟩;intro q m hq;cases q with
  | nil =>
   simp only[Al,Ka]at hq;subst hq;refine⟨⟨by rw[hp0];exact hc.szp,by rw[hp0];simpa using hle,by rw[hp0];exact hc.nil, ?_, ?_⟩,hm.move hp0 fun b o hb=>⟨hb,id,rfl⟩⟩
   ·intro e he;simp only[Kea]at he;rcases he with he|he
    ·exact hc.szs e he
    ·exact hsz e he
   ·intro i e c d he hd;rw[hp0];by_cases hi:i<es.length
    ·rw[Kpa hi]at he;obtain⟨v,hv,hdv⟩:=hc.cells i e c d he hd;exact⟨v,hv,by rw[Ks,hp1 i c [] hi];exact hdv⟩
    ·rw[Kfa (by omega)]at he;obtain⟨v,hv,hk⟩:=hN _ e c d he hd;rw[show es.length+(i-es.length)=i by omega]at hv;refine⟨v,hv, ?_⟩;rw[Ks,hp2 i c [] (by omega)];rcases hk with ⟨rfl,h1⟩|⟨s,rfl,rfl⟩
     ·exact⟨rfl,h1⟩
     ·refine⟨?_,rfl⟩;simp [Zea,he,hd]
  | cons a q =>
   obtain⟨i,c⟩:=a;unfold Al at hq;by_cases hi:i<es.length
   ·rw[Kpa hi]at hq;obtain⟨a,b⟩:=hok ((i,c)::q) m (by unfold Al;exact hq);exact⟨a.move (hp1 i c q hi) (fun j k _ _ _ _=>hp1 i c _ hi) fun _ _=>rfl,b.move (hp1 i c q hi) fun b o hb=>⟨hb,id,rfl⟩⟩
   ·rw[Kfa (by omega)]at hq;split at hq
    ·rename_i sz' es' hb;simp only[Kf]at hb;obtain⟨e,he,hd⟩:=hb;obtain⟨v,hv,hk⟩:=hN _ e c _ he hd;rcases hk with ⟨hbad,_⟩|⟨s,hs,rfl⟩
     ·cases hbad
     ·simp only[D.sl.injEq]at hs;obtain⟨rfl,rfl⟩:=hs;cases q with
      | nil =>
       simp only[Al,Ka]at hq;subst hq;have hz:=hp2 i c [] (by omega);refine⟨⟨by rw[hz];simp [Zea,he,hd],by rw[hz];simp,by rw[hz];simp,by simp,by simp⟩, ?_⟩;intro j hj;rw[hz]at hj;simp at hj
      | cons a q=>obtain⟨j,k⟩:=a;simp [Al]at hq
    ·simp at hq
 ·rename_i hne;obtain⟨hr',hok'⟩:=h.roots r' x hx;exact⟨hr',Keep.root' ⟨fun b o q hb=>⟨hb,rfl,rfl⟩,fun _ _ _=>rfl,fun q=>hpo _ _ (fun e=>hne e.symm)⟩ (fun x v k=>k.agree fun r p hr=>hpo _ _ (by omega)) hok'⟩
theorem Xp {N:List (List D)}{R k0:Nat}(h:nc<=R):D5 nc pl (plZ pl R N k0):=fun r p hr=>by unfold plZ;rw[if_neg (by omega)]
theorem Xq {N:List (List D)}{R k0 r:Nat}:plZ pl R N k0 r []=pl r []:=by unfold plZ;split<;>rfl
end
variable {P:Program} {N:Nat} {w0:World} {own0:Nat->Nat->Prop} {pl0:Pls} {g:Lab} {pl:Pls} {S:St} {a:Act} {w:World} {K:V->List (Nat×Ad)->List (Nat×Root)->Nat->Prop}
def L7 (P:Program) (w0:World) (own0:Nat->Nat->Prop) (pl0:Pls) (pl:Pls) (S:St) (K:V->List (Nat×Ad)->List (Nat×Root)->Nat->Prop) (s:Sem Value) (w:World):Prop :=
 ∃v w' x ks roots nx g' pl',s.run P w=.ok v w'/\VR pl' nx x v/\Hp w0 own0 pl0 g' pl' roots nx nx S.fix w'/\(∀z u,CR pl S.next z u->CR pl' nx (A8 ks z) u)/\K x ks roots nx
theorem Nc {s:Sem Value}{v:Value}{w':World}{x:C}{ks:List (Nat×Ad)}{roots:List (Nat×Root)}{nx:Nat}{g':Lab}{pl':Pls}(hK:K (.a (.c x)) ks roots nx) (hr:s.run P w=.ok v w') (hx:CR pl' nx x v)
  (hp:Hp w0 own0 pl0 g' pl' roots nx nx S.fix w') (hk:∀z u,CR pl S.next z u->CR pl' nx (A8 ks z) u):L7 P w0 own0 pl0 pl S K s w:=⟨v,w',.a (.c x),ks,roots,nx,g',pl',hr,hx,hp,hk,hK⟩
theorem Ynt (hR:Rel N w0 own0 pl0 g pl S a w){e:TypeId}{j:W}(ht:trW P (.alloc e)=some j) (h:wr S K j) :
  L7 P w0 own0 pl0 pl S K (Instr.alloc e true (.tuple #[])) w:=by
 simp only[trW,Ki,Kf,Ka]at ht;obtain⟨i,hi,z,hz,zc,hzc,rfl⟩:=ht;have hall:=Nr (pl:=pl) (nx:=S.next) hzc;have hb:=hR.hp.newBox zc z.cells.toList e hall;refine Nc h (v:=.pointer (some ⟨w.heap.size,0,none⟩)) ?_ Hp.newBox_ptr hb.bump fun z u hk=>(hk.agree (Ch _ _ _)).mono (by omega);simp [Instr.alloc,zeroValue,typeInfo,hi,hz,newVar,newRow]
theorem Ynv (hR:Rel N w0 own0 pl0 g pl S a w){e:TypeId}{x:Operand}{j:W}(ht:trW P (.box e x)=some j) (h:wr S K j) :
  L7 P w0 own0 pl0 pl S K (Instr.box e (a.eval x)) w:=by
 simp only[trW,Ku]at ht;obtain⟨y,hy,rfl⟩:=ht;obtain⟨ys,hys,hK⟩:=h;have hall:=Zbe (Bh hR hy) hys;have hb:=hR.hp.newBox ys (a.eval x).cells.toList e hall;refine Nc hK (v:=.pointer (some ⟨w.heap.size,0,none⟩)) ?_ Hp.newBox_ptr hb.bump fun z u hk=>(hk.agree (Ch _ _ _)).mono (by omega);simp [Instr.box,newVar,newRow]
theorem Zqz {nc r:Nat}{pre:Ad}(hpre:pre≠[]){L:Ad->Pl}{x:C}{u:Value}(h:CR pl nc x u):CR (Gz pl r pre L) nc (Ev r pre x) u:=by
 cases x with
 | rf r' q sz lo n =>
  by_cases hn:r'=r/\pre <+: q
  ·rw[show Ev r pre (.rf r' q sz lo n)=.un from if_pos hn];exact h.one
  ·rw[show Ev r pre (.rf r' q sz lo n)=.rf r' q sz lo n from if_neg hn];exact⟨h.1,by rw[G0 hn];exact h.2⟩
 | pe r' q i c =>
  by_cases hn:r'=r/\pre <+: q
  ·rw[show Ev r pre (.pe r' q i c)=.un from if_pos hn];exact h.one
  ·rw[show Ev r pre (.pe r' q i c)=.pe r' q i c from if_neg hn];exact⟨h.1,by rw[G0 hn];exact h.2⟩
 | pb r' c =>
  refine⟨h.1, ?_⟩;rw[G0 (by rintro ⟨_,hh⟩;exact hpre (List.prefix_nil.1 hh))];exact h.2
 | un=>exact h
 | nl sz=>exact h
 | lf v=>exact h
theorem Yhy (ks:List (Nat×Ad)) (k:Nat×Ad) (x:C):A8 (ks++[k]) x=Ev k.1 k.2 (A8 ks x):=by
 induction ks generalizing x with
 | nil=>rfl
 | cons a ks ih=>simp only[Kq,A8];exact ih _
theorem Ymf {g:Lab}{pl:Pls}{roots:List (Nat×Root)}{nx nc fix:Nat}(h:Hp w0 own0 pl0 g pl roots nx nc fix w){r:Nat}{p:Ad}{sz lo n:Nat}{v:Value}(hc:CR pl nc (.rf r p sz lo n) v){d:D}{roots1:List (Nat×Root)}(ht:C4 roots (.rf r p sz lo n)=some (d,roots1)) :
  ∃es g' pl',d=.sl sz es/\Hp w0 own0 pl0 g' pl' ((nx,.tr sz es)::roots1) (nx+1) nc fix w/\D5 nx pl pl'/\Win (pl' nx []) sz 0 es.length v/\(∀r x,get roots1 r=some x->r<nx):=by
 unfold C4 at ht;split at ht
 ·rename_i heq;cases heq
 ·rename_i heq;cases heq
 ·rename_i heq;cases heq;split at ht
  ·rename_i sz0 es hr;split at ht
   ·rename_i sz' es1 hp;split at ht
    ·rename_i hcond;obtain⟨rfl,hn⟩:=hcond;simp only[Ka,Kb]at ht;obtain⟨rfl,rfl⟩:=ht;refine⟨es1.take n,_,_,rfl,h.detach (n:=n) hr hp,Ch _ _ _, ?_, ?_⟩
     ·rw[B1,Kv,Kta,Kvd hn];exact hc.2
     ·intro r' x hx;have hrn:=(h.roots _ _ hr).1;by_cases e:r'=r
      ·subst e;exact hrn
      ·rw[Sm e]at hx;exact (h.roots r' x hx).1
    ·simp at ht
   ·simp at ht
  ·simp at ht
 ·simp at ht
theorem Zvh {g:Lab}{pl:Pls}{roots:List (Nat×Root)}{nx nc fix:Nat}(h:Hp w0 own0 pl0 g pl roots nx nc fix w){c:C}{v:Value}(hc:CR pl nc c v){d:D}{roots1:List (Nat×Root)}(ht:C4 roots c=some (d,roots1)) :
  (d=.lf v/\v.oneCell'=true/\roots1=roots)\/(∃sz,d=.sl sz []/\v=.slice none 0 0/\roots1=roots) \/
   (∃sz es g' pl',d=.sl sz es/\Hp w0 own0 pl0 g' pl' ((nx,.tr sz es)::roots1) (nx+1) nc fix w/\D5 nx pl pl'/\Win (pl' nx []) sz 0 es.length v/\(∀r x,get roots1 r=some x->r<nx)):=by
 unfold C4 at ht;split at ht
 ·simp only[Ka,Kb]at ht;obtain⟨rfl,rfl⟩:=ht;obtain⟨rfl,h1⟩:=hc;exact .inl ⟨rfl,h1,rfl⟩
 ·simp only[Ka,Kb]at ht;obtain⟨rfl,rfl⟩:=ht;exact .inr (.inl ⟨_,rfl,hc,rfl⟩)
 ·rename_i r p sz n;split at ht
  ·rename_i sz0 es hr;split at ht
   ·rename_i sz' es1 hp;split at ht
    ·rename_i hcond;obtain⟨rfl,hn⟩:=hcond;simp only[Ka,Kb]at ht;obtain⟨rfl,rfl⟩:=ht;refine .inr (.inr ⟨sz',es1.take n,_,_,rfl,h.detach (n:=n) hr hp,Ch _ _ _, ?_, ?_⟩)
     ·rw[B1,Kv,Kta,Kvd hn];exact hc.2
     ·intro r' x hx;have hrn:=(h.roots r _ hr).1;by_cases e:r'=r
      ·subst e;exact hrn
      ·rw[Sm e]at hx;exact (h.roots r' x hx).1
    ·simp at ht
   ·simp at ht
  ·simp at ht
 ·simp at ht
end Go.Vs
namespace Go.Vs
variable [Glb]
variable {P:Program} {N:Nat} {w0:World} {own0:Nat->Nat->Prop} {pl0:Pls} {g:Lab} {pl:Pls} {S:St} {a:Act} {w:World} {K:V->List (Nat×Ad)->List (Nat×Root)->Nat->Prop}
theorem Zui {roots:List (Nat×Root)}{nx nc fix:Nat}{r:Nat}:∀(ys:List C) (vs:List Value) (cs:List C) (c:Nat) (w:World) (roots:List (Nat×Root)),Hp w0 own0 pl0 g pl roots nx nc fix w->get roots r=some (.bx cs)->c+ys.length<=cs.length->Aa (CR pl nc) ys vs ->
  ∃roots',Hp w0 own0 pl0 g pl roots' nx nc fix (Gj w (pl r []).b ((pl r []).off+c) vs)/\(∀t,get roots' t=get (put roots r (.bx (cs.take c++(ys++cs.drop (c+ys.length))))) t)
 | [],[],cs,c,w,roots,h,hr,hc,_=>by
  refine⟨roots,h,fun t=>?_⟩;rw[Au];split
  ·rename_i e;subst e;simp [hr]
  ·rfl
 | y::ys,v::vs,cs,c,w,roots,h,hr,hc,hall=>by
  simp only[Kh]at hc;obtain⟨h1,_⟩:=h.setBox hr (show c<cs.length by omega) hall.1;obtain⟨roots',h2,h3⟩:=Zui (roots:=roots) ys vs (cs.set c y) (c+1) _ _ h1 (by rw[Au,if_pos rfl]) (by simp;omega) hall.2;refine⟨roots',by rw[Gj];exact h2,fun t=>?_⟩;rw[h3,Au,Au,Au];split
  ·congr 2;apply Ksc;intro j;simp only[List.getElem?_append,Kta,Khe,Ksa,Kya,Kva,List.getElem?_cons,Kh];have e3:min (c+1) cs.length=c+1:=by omega
   have e4:min c cs.length=c:=by omega
   rw[e3,e4];by_cases h1:j<c
   ·simp [h1,show j<c+1 by omega,show ¬c=j by omega]
   ·by_cases h2:j=c
    ·subst h2;simp [show j<cs.length by omega]
    ·have e1:¬j<c+1:=by omega
     simp only[e1,h1,if_false];have e5:j-c-1=j-(c+1):=by omega
     by_cases h4:j-(c+1)<ys.length
     ·simp [h4,show j-c<ys.length+1 by omega,show ¬(j-c=0) by omega,e5]
     ·simp only[h4,show ¬(j-c<ys.length+1) by omega,if_false];have e6:c+1+ys.length+(j-(c+1)-ys.length)=j:=by omega
      have e7:c+(ys.length+1)+(j-c-(ys.length+1))=j:=by omega
      rw[e6,e7,if_neg (by omega)]
  ·rfl
 | [],_::_,_,_,_,_,_,_,_,h=>h.elim
 | _::_,[],_,_,_,_,_,_,_,h=>h.elim
theorem Hp.roots_eq {roots roots':List (Nat×Root)}{nx nc fix:Nat}(h:Hp w0 own0 pl0 g pl roots nx nc fix w) (e:∀t,get roots' t=get roots t):Hp w0 own0 pl0 g pl roots' nx nc fix w :=
 ⟨h.fr,h.lab,h.fixed,h.fixle,h.ncle,fun r x hx=>h.roots r x (by rw[<-e];exact hx)⟩
theorem CR.killed {nc:Nat}{pl':Pls}{ks:List (Nat×Ad)}(h:∀z u,CR pl nc z u->CR pl' nc (A8 ks z) u):∀{ys:List C}{vs:List Value},Aa (CR pl nc) ys vs->Aa (CR pl' nc) (ys.map (A8 ks)) vs
 | [],[],_=>trivial
 | _::_,_::_,k=>⟨h _ _ k.1,CR.killed h k.2⟩
 | [],_::_,k=>k.elim
 | _::_,[],k=>k.elim
end Go.Vs
namespace Go.Vs
variable [Glb]
variable {P:Program} {N:Nat} {w0:World} {own0:Nat->Nat->Prop} {pl0:Pls} {g:Lab} {pl:Pls} {S:St} {a:Act} {w:World} {K:V->List (Nat×Ad)->List (Nat×Root)->Nat->Prop}
theorem Zr0 {f:List (List D)->List (List D)}:∀{p:Ad}{sz0:Nat}{es:List (List D)}{n:Nat×List (List D)},Al sz0 es p=some n->Al sz0 (Dm es p f) p=some (n.1,f n.2)
 | [],sz0,es,n,h=>by simp only[Al,Ka]at h;subst h;rfl
 | (i,c)::p,sz0,es,n,h=>by
  simp only[Al]at h;split at h
  ·rename_i sz' es' hcell;simp only[Kf]at hcell;obtain⟨e,he,hd⟩:=hcell;simp only[Dm,he,hd];rw[Zjd he hd];exact Zr0 h
  ·simp at h
theorem Zc7 {sz0:Nat}{es:List (List D)}{p:Ad}{n:Nat×List (List D)}(h:Al sz0 es p=some n){i:Nat}{e:List D}(he:n.2[i]? = some e) (c:Nat) (d:D) :
  ∃n',Al sz0 (Dz es p i c d) p=some n'/\n'.1=n.1/\n'.2[i]? = some (e.set c d):=by
 refine⟨_,Zr0 h,rfl, ?_⟩;have h1:=getElem?_lt he;simp only[Fb,he];rw[Kya,if_pos rfl,if_pos h1]
theorem Zwn {f k:List (List D)->List (List D)}:∀{p:Ad}{sz0:Nat}{es:List (List D)}{n:Nat×List (List D)},Al sz0 es p=some n->Dm (Dm es p f) p k=Dm es p fun l=>k (f l)
 | [],sz0,es,n,h=>rfl
 | (i,c)::p,sz0,es,n,h=>by
  simp only[Al]at h;split at h
  ·rename_i sz' es' hcell;simp only[Kf]at hcell;obtain⟨e,he,hd⟩:=hcell;have h1:=getElem?_lt he;have h2:=getElem?_lt hd;simp only[Dm,he,hd];rw[Kya,if_pos rfl,if_pos h1];simp only;rw[Kya,if_pos rfl,if_pos h2];simp only;rw[Zwn h,Ktc,Ktc]
  ·simp at h
theorem Zuj {sz0:Nat}{es:List (List D)}{p:Ad}{n:Nat×List (List D)}(h:Al sz0 es p=some n) (i c:Nat) (d d':D):Dz (Dz es p i c d) p i c d'=Dz es p i c d':=by
 unfold Dz;rw[Zwn h];congr 1;funext l;unfold Fb;cases hl:l[i]? with
 | none=>simp [hl]
 | some e =>
  have h1:=getElem?_lt hl;simp only;rw[Kya,if_pos rfl,if_pos h1];simp only[Ktc]
theorem S5 (r:Nat) (pre:Ad) (roots:List (Nat×Root)) (t:Nat):get (W8 r pre roots) t=(get roots t).map (Root.map (Ev r pre)):=Qj _ _ _
theorem Zlh {roots roots1:List (Nat×Root)}{c:C}{d:D}(h:C4 roots c=some (d,roots1)){t:Nat}{x:Root}(hx:get roots1 t=some x):∃y,get roots t=some y:=by
 unfold C4 at h;split at h
 ·simp only[Ka,Kb]at h;obtain⟨_,rfl⟩:=h;exact⟨x,hx⟩
 ·simp only[Ka,Kb]at h;obtain⟨_,rfl⟩:=h;exact⟨x,hx⟩
 ·rename_i r p sz n;split at h
  ·rename_i sz0 es hr;split at h
   ·split at h
    ·simp only[Ka,Kb]at h;obtain⟨_,rfl⟩:=h;by_cases e:t=r
     ·subst e;exact⟨_,hr⟩
     ·rw[Sm e]at hx;exact⟨x,hx⟩
    ·simp at h
   ·simp at h
  ·simp at h
 ·simp at h
theorem Zk9 {plI:Pls}{n0 nc fix r:Nat}{p:Ad}{i:Nat}(hnc:nc<=n0):∀(ys:List C) (vs:List Value) (roots:List (Nat×Root)) (c:Nat) (ks:List (Nat×Ad)) (w:World) (g:Lab) (pl:Pls) (nx:Nat) (res:List (Nat×Root)×List (Nat×Ad)),
  Hp w0 own0 pl0 g pl roots nx nc fix w->n0<=nx->(∀t x,get roots t=some x->t<n0)->(∀z u,CR plI nc z u->CR pl nc (A8 ks z) u)->Aa (CR plI nc) ys vs ->
  ∀(sz0:Nat) (es:List (List D)) (n:Nat×List (List D)) (e:List D),get roots r=some (.tr sz0 es)->Al sz0 es p=some n->n.2[i]? = some e->c+ys.length<=e.length ->
  G2 fix r p i ys roots c ks=some res ->
  ∃g' pl' nx',Hp w0 own0 pl0 g' pl' res.1 nx' nc fix (Gj w (pl r p).b ((pl r p).off+(i*(pl r p).sz+c)) vs)/\n0<=nx'/\(∀t x,get res.1 t=some x->t<n0)/\(∀z u,CR plI nc z u->CR pl' nc (A8 res.2 z) u)
 | [],[],roots,c,ks,w,g,pl,nx,res,h,hn0,hids,hcr,_,sz0,es,n,e,hr,hp,he,hle,hst=>by
  simp only[G2,Ka]at hst;subst hst;exact⟨g,pl,nx,h,hn0,hids,hcr⟩
 | y::ys,v::vs,roots,c,ks,w,g,pl,nx,res,h,hn0,hids,hcr,hall,sz0,es,n,e,hr,hp,he,hle,hst=>by
  simp only[Kh]at hle;have hy:=hcr y v hall.1;have hcc:=(h.node (r:=r) (p:=p) (n:=n)
   (by unfold C1;rw[hr];exact hp)).2
  have hd:∃d0,e[c]? = some d0:=⟨_,Kr (by omega)⟩;obtain⟨d0,hd⟩:=hd;have hszp:=hcc.szp;unfold G2 at hst;split at hst
  ·rename_i u hyk;rw[hyk]at hy;obtain⟨rfl,h1⟩:=hy;rw[hr]at hst;simp only at hst;obtain⟨hL,_⟩:=h.setLeaf hr hp he hd h1;obtain⟨n',hn',hn1,hn2⟩:=Zc7 hp he c (.lf v);obtain⟨g',pl',nx',a1,a2,a3,a4⟩:=Zk9 hnc ys vs _ (c+1) ks _ g pl nx res hL hn0 (fun t x hx=>by
     rw[Au]at hx;split at hx
     ·rename_i e';subst e';exact hids _ _ hr
     ·exact hids t x hx) hcr hall.2 sz0 _ n' _ (by rw[Au,if_pos rfl]) hn' hn2 (by simp;omega) hst
   refine⟨g',pl',nx', ?_,a2,a3,a4⟩;rw[Gj,hszp];rw[hszp]at a1;rw[show (pl r p).off+(i*n.1+c)+1=(pl r p).off+(i*n.1+(c+1)) by omega];exact a1
  ·rename_i hnl;split at hst
   ·rename_i d roots1 htk;split at hst
    ·rename_i sz1 es1 hr1;split at hst
     ·rename_i hcond;obtain⟨hfix,hcell⟩:=hcond;unfold S6 at hcell;split at hcell
      ·rename_i e1 hne1;simp only[decide_eq_true_eq]at hcell;simp only[Kf]at hne1;obtain⟨n1,hn1,he1⟩:=hne1;obtain⟨d1,hd1⟩:∃d1,e1[c]? = some d1:=⟨_,Kr (by omega)⟩;have hid1':∀t x,get roots1 t=some x->t<n0:=by
        intro t x hx;obtain⟨y,hy⟩:=Zlh htk hx;exact hids t y hy
       -- the real cell is written with the value,told as a leaf;then it is told what it is
       have key:∃g2 pl2 nx2,Hp w0 own0 pl0 g2 pl2 (put (W8 r (p++[(i,c)]) roots1) r (.tr sz1 (Dz es1 p i c d))) nx2 nc fix (w.setCell ⟨(pl r p).b,(pl r p).off+(i*(pl r p).sz+c),none⟩ v)/\nx<=nx2 /\
         (∀z u,CR pl nc z u->CR pl2 nc (Ev r (p++[(i,c)]) z) u)/\pl2 r p=pl r p/\(∀t x,get roots1 t=some x->t<n0):=by
        rcases Zvh h hy htk with ⟨rfl,h1,rfl⟩|⟨sz,rfl,rfl,rfl⟩|⟨sz,es',g1,pl1,rfl,h1,hag,hwin,hid1⟩
        ·exfalso;unfold C4 at htk;split at htk
         ·first|exact hnl _ rfl|exact hnl _ ‹_›|simp_all
         ·simp at htk
         ·split at htk
          ·split at htk
           ·split at htk<;>simp at htk
           ·simp at htk
          ·simp at htk
         ·simp at htk
        ·rw[hr]at hr1;simp only[Ka,Root.tr.injEq]at hr1;obtain⟨rfl,rfl⟩:=hr1;rw[hp]at hn1;simp only[Ka]at hn1;subst hn1;rw[he]at he1;simp only[Ka]at he1;subst he1;obtain⟨hL,_⟩:=h.setLeaf hr hp he hd (u:=.slice none 0 0) rfl;obtain⟨n',hn',hn1',hn2'⟩:=Zc7 hp he c (.lf (.slice none 0 0));have hk:=fun (z:C) (u:Value) (k:CR pl nc z u)=>Zqz (r:=r) (pre:=p++[(i,c)]) (by simp) (L:=fun _=>⟨true,0,0,0,sz,none⟩) k;have hz:=hL.setNil (κ:=Ev r (p++[(i,c)])) (by rw[Au,if_pos rfl]) hn' hn2' (by simp [getElem?_lt hd]) sz hfix hk;refine⟨_,_,nx,hz.roots_eq ?_ |> fun z=>by rw[hszp];exact z,Kd _,hk,G0 (fun k=>Qs k.2),hid1'⟩;intro t;rw[Au,Au,S5,Qj,Au];split
         ·rw[Zuj hp]
         ·rfl
        ·have hrn0:r<n0:=hid1' r _ hr1;have hrx:r<nx:=by omega
         have hr1':get ((nx,Root.tr sz es')::roots1) r=some (.tr sz1 es1):=by simp only[get];rw[if_neg (by omega)];exact hr1
         obtain⟨hL,_⟩:=h1.setLeaf hr1' hn1 he1 hd1 (u:=v) hwin.one;have hpe:pl1 r p=pl r p:=hag r p hrx;have hszp1:(pl1 r p).sz=n1.1:=(h1.node (r:=r) (p:=p) (n:=n1) (by unfold C1;rw[hr1'];exact hn1)).2.szp;rw[hpe]at hszp1;obtain⟨n',hn',hn1',hn2'⟩:=Zc7 hn1 he1 c (.lf v);have hk:=fun (z:C) (u:Value) (k:CR pl1 nc z u)=>Zqz (r:=r) (pre:=p++[(i,c)]) (by simp) (L:=fun q=>pl1 nx ([]++q)) k;have hm:=hL.move (κ:=Ev r (p++[(i,c)])) (R:=r) (by rw[Au,if_pos rfl]) hn' hn2' (by simp [getElem?_lt hd1]) hfix (r:=nx) (by omega) (p:=[]) (sz:=sz) (n:=es'.length) (sz0:=sz) (es:=es')
          (by rw[Au,if_neg (by omega)];simp [get]) rfl (Kd _) hwin hk
         refine⟨_,_,nx+1,hm.roots_eq ?_ |> fun z=>by rw[hszp1,<-hpe];exact z,by omega,fun z u k=>hk z u (k.agree fun r p hr=>hag r p (by have:=h.ncle;omega)),by rw[G0 (fun k=>Qs k.2)];exact hpe,hid1'⟩;intro t;rw[Au,Au,S5,Qj];split
         ·rw[Zuj hn1,Kic]
         ·rename_i hne;congr 1;simp only[D2];rw[Ga,Au,if_neg hne];simp only[get];split
          ·rename_i e;subst e;cases hq:get roots1 nx with
           | none=>rfl
           | some x=>have:=hid1' _ _ hq;omega
          ·rfl
       obtain⟨g2,pl2,nx2,hp2,hnx2,hcr2,hpl2,hid2⟩:=key;obtain⟨n',hn',hn1',hn2'⟩:=Zc7 hn1 he1 c d;obtain⟨g',pl',nx',a1,a2,a3,a4⟩:=Zk9 hnc ys vs _ (c+1) (ks++[(r,p++[(i,c)])]) _ g2 pl2 nx2 res hp2 (by omega) (fun t x hx=>by
         rw[Au]at hx;split at hx
         ·rename_i e';subst e';exact hid2 _ _ hr1
         ·rw[S5]at hx;simp only[Ku]at hx;obtain⟨y,hy,_⟩:=hx;exact hid2 t y hy) (fun z u k=>by rw[Yhy];exact hcr2 _ _ (hcr z u k)) hall.2 sz1 _ n' _ (by rw[Au,if_pos rfl]) hn' hn2' (by simp;omega) hst
       refine⟨g',pl',nx', ?_,a2,a3,a4⟩;rw[Gj];rw[hpl2]at a1;rw[show (pl r p).off+(i*(pl r p).sz+c)+1=(pl r p).off+(i*(pl r p).sz+(c+1)) by omega];exact a1
      ·simp at hcell
     ·simp at hst
    ·simp at hst
   ·simp at hst
 | [],_::_,_,_,_,_,_,_,_,_,_,_,_,_,h,_,_,_,_,_,_,_,_,_=>h.elim
 | _::_,[],_,_,_,_,_,_,_,_,_,_,_,_,h,_,_,_,_,_,_,_,_,_=>h.elim
end Go.Vs
namespace Go.Vs
variable [Glb]
variable {P:Program} {N:Nat} {w0:World} {own0:Nat->Nat->Prop} {pl0:Pls} {g:Lab} {pl:Pls} {S:St} {a:Act} {w:World} {K:V->List (Nat×Ad)->List (Nat×Root)->Nat->Prop}
theorem Zat {nc:Nat}:∀{ys:List C}{vs:List Value},Aa (CR pl nc) ys vs->∀v∈vs,v.oneCell'=true
 | [],[],_,v,hv=>by simp at hv
 | _::_,_::_,h,v,hv=>by
  rcases Kg.1 hv with rfl|hv
  ·exact CR.one h.1
  ·exact Zat h.2 v hv
 | [],_::_,h,_,_=>h.elim
 | _::_,[],h,_,_=>h.elim
def Zxo (P:Program) (w0:World) (own0:Nat->Nat->Prop) (pl0:Pls) (pl:Pls) (S:St) (K:V->List (Nat×Ad)->List (Nat×Root)->Nat->Prop) (s:Sem Unit) (w:World):Prop :=
 ∃w' ks roots nx g' pl',s.run P w=.ok () w'/\Hp w0 own0 pl0 g' pl' roots nx nx S.fix w'/\(∀z u,CR pl S.next z u->CR pl' nx (A8 ks z) u)/\K .un ks roots nx
theorem Yly (hR:Rel N w0 own0 pl0 g pl S a w){t:TypeId}{x v:Operand}{j:W}(ht:trW P (.store t x v)=some j) (h:wr S K j) :
  Zxo P w0 own0 pl0 pl S K (Instr.storeAt t (a.eval x) (a.eval v)) w:=by
 simp only[trW,Ki,Kf,Ka]at ht;obtain⟨i,hi,x',hx,v',hv,rfl⟩:=ht;have h1:=Bh hR hx;have h2:=Bh hR hv;have hrun:∀(b o:Nat),a.eval x=.pointer (some ⟨b,o,none⟩)->(a.eval v).cells.size=i.size->(∀u∈(a.eval v).cells.toList,u.oneCell'=true) ->
   (∀j,j<(a.eval v).cells.toList.length->(∃u,w.cell? ⟨b,o+j,none⟩=some u)/\w.frozen? ⟨b,o+j,none⟩=false) ->
   (Instr.storeAt t (a.eval x) (a.eval v)).run P w=.ok () (Gj w b o (a.eval v).cells.toList):=by
  intro b o hb hs h1 hex;have hst:=Zdq (P:=P) b (a.eval v).cells.toList w o 0 h1 (by simpa using hex);simp [Instr.storeAt,hb,Instr.sureAddr,storeVar,sizeOf,typeInfo,hi,hs,hst]
 simp only[wr]at h;split at h
 ·rename_i r c he;rw[he]at h1;obtain⟨hr,hpv⟩:=Be h1;obtain⟨ys,hys,hl,cs,hcs,hle,hK⟩:=h;have hall:=Zbe h2 hys;have hll:=hall.length;obtain⟨_,hok⟩:=hR.hp.roots r _ hcs;obtain⟨roots',hp,hroots⟩:=Zui (roots:=S.roots) ys (a.eval v).cells.toList cs c w S.roots hR.hp hcs (by omega) hall;refine⟨_,[],_,S.next,g,pl,hrun _ _ hpv (by rw[<-Kqb];omega) (Zat hall) ?_,hp.roots_eq (fun t=>(hroots t).symm),fun z u hk=>hk,by rw[hl];exact hK⟩;intro j hj;obtain⟨u,e1,_,_,e2⟩:=hok (c+j) _ (Kr (show c+j<cs.length by omega));rw[<-Khb]at e1 e2;exact⟨⟨u,e1⟩,e2⟩
 ·rename_i r p i' c he;rw[he]at h1;obtain⟨hr,hnil,hpv⟩:=Be h1;obtain⟨ys,hys,hl,e,hE,hle,⟨sz0,es,hroot⟩,res,hres,hK⟩:=h;have hall:=Zbe h2 hys;have hll:=hall.length;simp only[Kf]at hE;obtain⟨n,hn,hei⟩:=hE;have hn':Al sz0 es p=some n:=by
   rw[Ot]at hn;unfold C1 at hn;rw[hroot]at hn;exact hn
  obtain⟨hc,hm⟩:=(hR.hp.roots r _ hroot).2 p n hn';obtain⟨g',pl',nx',a1,a2,a3,a4⟩:=Zk9 (n0:=S.next) (Kd _) ys (a.eval v).cells.toList S.roots c [] w g pl S.next res hR.hp (Kd _) (fun t x hx=>(hR.hp.roots t x hx).1) (fun z u k=>k) hall sz0 es n e hroot hn' hei (by omega) hres;refine⟨_,res.2,res.1,S.next,_,pl',hrun _ _ hpv (by rw[<-Kqb];omega) (Zat hall) ?_,a1.trim (Kd _) hR.hp.fixle a3,a4,hK⟩;intro j hj;have hb:=hc.bound hei (Kr (show c+j<e.length by omega));obtain⟨_,e1,e2⟩:=hm (i'*n.1+(c+j)) (by rw[hc.szp];exact hb.2.2.1);rw[hc.szp];rw[show (pl r p).off+(i'*n.1+c)+j=(pl r p).off+(i'*n.1+(c+j)) by omega];exact⟨e1,e2⟩
 ·exact h.elim
theorem Zs5 {α:Type}(n:Nat) (l:List α):(rep n l).length=n*l.length:=by
 induction n with
 | zero=>simp [rep]
 | succ n ih=>simp [rep,ih,Kxa];omega
theorem Zs4 {α:Type}{l:List α}:∀(n i c:Nat),i<n->c<l.length->(rep n l)[i*l.length+c]? = l[c]?
 | 0,_,_,h,_=>by omega
 | n+1,0,c,_,hc=>by simp [rep,Kpa hc]
 | n+1,i+1,c,h,hc=>by
  simp only[rep];rw[Kfa (by rw[Kxa];omega)];rw[show (i+1)*l.length+c-l.length=i*l.length+c by rw[Kxa];omega];exact Zs4 n i c (by omega) hc
theorem Zri (z:Array Value) (n:Nat) (hz:0<z.size):∀j,j<n->(madeCells z n)[j]? = z[j%z.size]?:=by
 intro j hj;have:j%z.size<z.size:=Kmd _ hz;simp [madeCells,hj,Array.getElem!_eq_getD,Array.getD,this]
theorem Yn4 {nc:Nat}{c:C}{v:Value}(h:CR pl nc c v) (hp:Q1 c=true):(Pe c=.lf v/\v.oneCell'=true)\/(∃s,Pe c=.sl s []/\v=.slice none 0 0):=by
 cases c with
 | lf x=>obtain⟨rfl,h1⟩:=h;exact .inl ⟨rfl,h1⟩
 | nl sz=>exact .inr ⟨sz,rfl,h⟩
 | un=>simp [Q1]at hp
 | rf=>simp [Q1]at hp
 | pe=>simp [Q1]at hp
 | pb=>simp [Q1]at hp
theorem Yu {pl:Pls}{nx B cap sz n:Nat}{L:Ad->Pl}(hL:pl nx []=⟨false,B,0,cap,sz,none⟩) (hn:n<=cap):Win (pl nx []) sz 0 n (.slice (some ⟨B,0,none⟩) n cap):=by
 rw[hL];exact⟨rfl,by simp,by simpa using hn,some ⟨B,0,none⟩,by simp,fun _=>by simp⟩
theorem Yny (hR:Rel N w0 own0 pl0 g pl S a w){t:TypeId}{l c:Operand}{j:W}(ht:trW P (.makeSlice t l c)=some j) (h:wr S K j) :
  L7 P w0 own0 pl0 pl S K (Instr.makeSlice t (a.eval l) (a.eval c)) w:=by
 simp only[trW]at ht;split at ht
 ·rename_i e hu;simp only[Ki,Kf]at ht;obtain⟨i,hi,z,hz,zc,hzc,ht⟩:=ht;split at ht
  ·rename_i hcond;obtain⟨hzl,hpos⟩:=hcond;simp only[Kf,Ka]at ht;obtain⟨l',hl,c',hc,rfl⟩:=ht;have h1:=Bh hR hl;have h2:=Bh hR hc;simp only[wr]at h;split at h
   ·rename_i k1 z1 k2 z2 he hf;rw[he]at h1;rw[hf]at h2;obtain⟨hv1,_⟩:=Be h1;obtain⟨hv2,_⟩:=Be h2;obtain⟨rfl,h0,hb,h63,hplain,hK⟩:=h;have hall:=Nr (pl:=pl) (nx:=S.next) hzc;have hlen:=hall.length;have hzs:z.cells.size=i.size:=by rw[<-Kqb,<-hlen,hzl]
    have hrun:=run_make (P:=P) w t e i z hu hi hz k1 k2 z2 z2 h0 (Kec _) (by rw[Int.mul_comm];omega) h63;have hfr:=hR.hp.fresh (madeCells z.cells (z2.toNat*i.size)) e z2.toNat i.size (size_madeCells _ _);have hcell:∀(i':Nat) (e':List D) (c':Nat) (d:D),(List.replicate z2.toNat (zc.map Pe))[i']? = some e'->e'[c']? = some d ->
      ∃v,(w.alloc (.cells (madeCells z.cells (z2.toNat*i.size)) e)).cell? ⟨w.heap.size,i'*i.size+c',none⟩=some v/\((d=.lf v/\v.oneCell'=true)\/(∃s,d=.sl s []/\v=.slice none 0 0)):=by
     intro i' e' c' d he' hd;rw[List.getElem?_replicate]at he';split at he'
     ·rename_i hi';simp only[Ka]at he';subst he';simp only[Kz,Ku]at hd;obtain⟨y,hy,rfl⟩:=hd;obtain⟨v,hv,hcr⟩:=hall.get _ _ hy;have hc':=getElem?_lt hy;have hjj:i'*i.size+c'<z2.toNat*i.size:=lin hi' (Kd _) (by omega);refine⟨v, ?_,Yn4 hcr (by have:=Kma.1 hplain y (Ky hy);exact this)⟩;rw[World.cell?_alloc_new,Zri _ _ (by omega) _ hjj,hzs];rw[Kbc,Nat.mul_add_mod,Kuc (by omega)];simpa using hv
     ·simp at he'
    have hx:=hfr.extendZ (r:=S.next) (sz:=i.size) (es:=[]) (by simp [get]) (by have:=hR.hp.fixle;omega) (Kd _) (List.replicate z2.toNat (zc.map Pe)) (by
      intro e' he';have:=List.eq_of_mem_replicate he';subst this;simpa using hzl) (by rw[B1];simp) (by
      intro i' e' c' d he' hd;rw[B1];obtain⟨v,e1,e2⟩:=hcell i' e' c' d he' hd;refine⟨v, ?_,e2⟩;simp only[Ko,Kp];exact e1)
    have hag:D5 S.next pl (plZ (Ec pl S.next fun _=>⟨false,w.heap.size,0,z2.toNat,i.size,none⟩) S.next (List.replicate z2.toNat (zc.map Pe)) 0):=by
     intro r p hr;rw[Xp (Kd _) r p hr,Ch _ _ _ _ _ hr]
    refine Nc hK (v:=.slice (some ⟨w.heap.size,0,none⟩) z2.toNat z2.toNat) ?_ (pl':=plZ (Ec pl S.next fun _=>⟨false,w.heap.size,0,z2.toNat,i.size,none⟩) S.next (List.replicate z2.toNat (zc.map Pe)) 0) ?_ (hx.bump.roots_eq ?_) (fun z u hk=>(hk.agree hag).mono (by omega))
    ·rw[hv1,hv2];exact hrun
    ·refine⟨by omega,Yu (L:=fun _=>default) ?_ (Kd _)⟩;rw[Xq,B1]
    ·intro t';rw[Au];simp only[get];split
     ·simp
     ·rfl
   ·exact h.elim
  ·simp at ht
 ·simp at ht
end Go.Vs
namespace Go.Vs
variable [Glb]
variable {P:Program} {N:Nat} {w0:World} {own0:Nat->Nat->Prop} {pl0:Pls} {g:Lab} {pl:Pls} {S:St} {a:Act} {w:World} {K:V->List (Nat×Ad)->List (Nat×Root)->Nat->Prop}
theorem P4 {α:Type}(sz:Nat):∀(n:Nat) (l:List α),(D1 sz n l).length=n
 | 0,_=>rfl
 | n+1,l=>by simp [D1,P4 sz n]
theorem P3 {α:Type}(sz:Nat):∀(n:Nat) (l:List α) (i:Nat),i<n->(D1 sz n l)[i]? = some ((l.drop (i*sz)).take sz)
 | 0,_,_,h=>by omega
 | n+1,l,0,_=>by simp [D1]
 | n+1,l,i+1,h=>by
  simp only[D1,Kga];rw[P3 sz n _ i (by omega),Kvc];rw[show sz+i*sz=(i+1)*sz by rw[Kxa];omega]
theorem Zyk {α:Type}{sz n:Nat}{l:List α}{i c:Nat}{e:List α}{d:α}(he:(D1 sz n l)[i]? = some e) (hd:e[c]? = some d):i<n/\c<sz/\l[i*sz+c]? = some d:=by
 have hi:=getElem?_lt he;rw[P4]at hi;rw[P3 sz n l i hi]at he;simp only[Ka]at he;subst he;rw[Ksa]at hd;by_cases hc:c<sz
 ·rw[if_pos hc,Kva]at hd;exact⟨hi,hc,hd⟩
 ·rw[if_neg hc]at hd;simp at hd
theorem Zyl {α:Type}{sz n:Nat}{l:List α}(hl:l.length=n*sz){e:List α}(he:e∈D1 sz n l):e.length=sz:=by
 obtain⟨i,hi⟩:=Kgc he;have h1:=getElem?_lt hi;rw[P4]at h1;rw[P3 sz n l i h1]at hi;simp only[Ka]at hi;subst hi;have:=Kwb sz (show i+1<=n by omega);rw[Kxa]at this;simp;omega
theorem Zym {sz n:Nat}{l:List D}(hl:l.length=n*sz){i c:Nat}(hi:i<n) (hc:c<sz) (d:D):Fb (D1 sz n l) i c d=D1 sz n (l.set (i*sz+c) d):=by
 simp only[Fb,P3 sz n l i hi];apply Ksc;intro j;by_cases hj:j<n
 ·rw[P3 sz n _ j hj,Kya];split
  ·rename_i e;subst e;rw[if_pos (by rw[P4];exact hi)];congr 1;apply Ksc;intro k;simp only[Kya,Ksa,Kva,Kta,Kia];have hlt:=lin hi (Kd _) hc;by_cases hk:k<sz
   ·by_cases hck:c=k
    ·subst hck;simp [hk,hlt,show c<min sz (n*sz-i*sz) by omega,hl]
    ·simp [hk,hck,show ¬i*sz+c=i*sz+k by omega]
   ·simp [hk,show ¬c=k by omega]
  ·rename_i hne;rw[P3 sz n l j hj];congr 1;apply Ksc;intro k;simp only[Kya,Ksa,Kva];by_cases hk:k<sz
   ·have:¬i*sz+c=j*sz+k:=fun e=>hne (Zrd hc hk e).1;simp [hk,this]
   ·simp [hk]
 ·rw[Khc (by rw[Khe,P4];omega),Khc (by rw[P4];omega)]
theorem Zvf {roots:List (Nat×Root)}{c:C}{d:D}{roots1:List (Nat×Root)}(h:C4 roots c=some (d,roots1)){R:Nat}{x:Root}{nc:Nat}{v:Value}(hc:CR pl nc c v) (hR:nc<=R) :
  C4 ((R,x)::roots) c=some (d,(R,x)::roots1):=by
 unfold C4 at h ⊢;split at h
 ·simp only[Ka,Kb]at h;obtain⟨rfl,rfl⟩:=h;rfl
 ·simp only[Ka,Kb]at h;obtain⟨rfl,rfl⟩:=h;rfl
 ·rename_i r p sz n;have hr:=hc.1;have hne:¬R=r:=by omega
  simp only[get,hne,if_false];split at h
  ·rename_i sz0 es hg;split at h
   ·rename_i sz' es1 hn;split at h
    ·rename_i hcond;simp only[Ka,Kb]at h;obtain⟨rfl,rfl⟩:=h;simp only[hg,hn,hcond,and_self,if_true];congr 2;unfold D2;split
     ·simp [del,hne]
     ·simp only[get,hne,if_false,hg];simp [put,hne]
    ·simp at h
   ·simp at h
  ·simp at h
 ·simp at h
def gh:C->Value->D
 | .nl s,_=>.sl s []
 | _,u=>.lf u
def ghs:List C->List Value->List D
 | c::cs,u::us=>gh c u::ghs cs us
 | _,_=>[]
theorem Zhq:∀{cs:List C}{us:List Value}{R:C->Value->Prop},Aa R cs us->(ghs cs us).length=cs.length
 | [],[],_,_=>rfl
 | _::_,_::_,_,h=>by simp [ghs,Zhq h.2]
 | [],_::_,_,h=>h.elim
 | _::_,[],_,h=>h.elim
theorem Zp1:∀{cs:List C}{us:List Value}{R:C->Value->Prop},Aa R cs us->∀(k:Nat) (d:D),(ghs cs us)[k]? = some d->∃c u,cs[k]? = some c/\us[k]? = some u/\d=gh c u/\R c u
 | [],[],_,_,k,d,h=>by simp [ghs]at h
 | c::cs,u::us,R,h,0,d,hd=>by simp [ghs]at hd;exact⟨c,u,rfl,rfl,hd.symm,h.1⟩
 | c::cs,u::us,R,h,k+1,d,hd=>by
  simp only[ghs,Kga]at hd;simpa using Zp1 h.2 k d hd
 | [],_::_,_,h,_,_,_=>h.elim
 | _::_,[],_,h,_,_,_=>h.elim
theorem Hp.move_id {roots:List (Nat×Root)}{nx nc fix:Nat}(h:Hp w0 own0 pl0 g pl roots nx nc fix w){R szR:Nat}{esR:List (List D)}(hR:get roots R=some (.tr szR esR)){P:Ad}{nP:Nat×List (List D)}(hP:Al szR esR P=some nP)
  {i c:Nat} {e:List D} {v:Value} (he:nP.2[i]? = some e) (hd:e[c]? = some (.lf v)) (hfix:fix<=R) (hnc:nc<=R)
  {r:Nat} (hne:r≠R) {p:Ad} {sz n sz0:Nat} {es:List (List D)} (hr:get roots r=some (.tr sz0 es)) {es1:List (List D)} (hp:Al sz0 es p=some (sz,es1)) (hn:n<=es1.length)
  (hv:Win (pl r p) sz 0 n v) :
  Hp w0 own0 pl0 (Jo g r p R (P++[(i,c)])) (Gz pl R (P++[(i,c)]) fun q=>pl r (p++q))
   (put (D2 roots r p) R (.tr szR (Dz esR P i c (.sl sz (es1.take n))))) nx nc fix w:=by
 have hm:=h.move (κ:=fun x=>x) hR hP he hd hfix hne hr hp hn hv (fun x u k=>k.agree fun r p hr=>G0 (by rintro ⟨rfl,_⟩;omega));refine hm.roots_eq fun t=>?_;rw[Au,Au,Qj];split
 ·rfl
 ·cases get (D2 roots r p) t with
  | none=>rfl
  | some x=>simp [Root.map_id]
theorem Yi4 (sz:Nat) (es:List (List D)):Al sz es []=some (sz,es):=rfl
theorem Zrf {R sz len nc fix:Nat}(hfix:fix<=R) (hnc:nc<=R){plI:Pls}:∀(cs:List C) (us:List Value) (dn:List D) (roots:List (Nat×Root)) (g:Lab) (pl:Pls) (nx:Nat) (res:List D×List (Nat×Root)),
  Hp w0 own0 pl0 g pl ((R,.tr sz (D1 sz len (dn++ghs cs us)))::roots) nx nc fix w->R<nx->dn.length+cs.length=len*sz->Aa (CR plI nc) cs us->D5 nc plI pl->Cs roots cs=some res ->
  ∃g' pl' nx',Hp w0 own0 pl0 g' pl' ((R,.tr sz (D1 sz len (dn++res.1)))::res.2) nx' nc fix w/\R<nx'/\D5 nc plI pl'/\pl' R []=pl R []/\(∀t x,get res.2 t=some x->∃y,get roots t=some y)
 | [],[],dn,roots,g,pl,nx,res,h,hRn,hl,_,hag,ht=>by
  simp only[Cs,Ka]at ht;subst ht;exact⟨g,pl,nx,by simpa [ghs] using h,hRn,hag,rfl,fun t x hx=>⟨x,hx⟩⟩
 | c::cs,u::us,dn,roots,g,pl,nx,res,h,hRn,hl,hall,hag,ht=>by
  unfold Cs at ht;split at ht
  ·rename_i d roots1 htk;split at ht
   ·rename_i ds roots2 htl;simp only[Ka]at ht;subst ht;have hcr:=hall.1.agree hag;have htk':=Zvf (x:=.tr sz (D1 sz len (dn++ghs (c::cs) (u::us)))) htk hcr hnc;have hlen:=Zhq hall.2;simp only[Kh]at hl;have next:∃g1 pl1 nx1,Hp w0 own0 pl0 g1 pl1 ((R,.tr sz (D1 sz len (dn++d::ghs cs us)))::roots1) nx1 nc fix w/\R<nx1/\D5 nc plI pl1/\pl1 R []=pl R []:=by
     cases c with
     | lf x =>
      simp only[C4,Ka,Kb]at htk;obtain⟨rfl,rfl⟩:=htk;obtain⟨rfl,_⟩:=hcr;exact⟨g,pl,nx,h,hRn,hag,rfl⟩
     | nl s =>
      simp only[C4,Ka,Kb]at htk;obtain⟨rfl,rfl⟩:=htk;exact⟨g,pl,nx,h,hRn,hag,rfl⟩
     | un=>simp [C4]at htk
     | pe=>simp [C4]at htk
     | pb=>simp [C4]at htk
     | rf r p s lo n =>
      obtain⟨es',g1,pl1,rfl,h1,hag1,hwin,hid⟩:=Ymf h hcr htk'
      ·have hk:dn.length<len*sz:=by omega
       have hsz:0<sz:=by
        rcases Kaf sz with h0|h0
        ·subst h0;simp at hk
        ·exact h0
       have hidx:dn.length / sz<len:=Kje (by rw[Kbc];exact hk);have hmod:dn.length%sz<sz:=Kmd _ hsz;have hdm:dn.length / sz*sz+dn.length%sz=dn.length:=by rw[Kbc];exact Kke _ _
       have hgl:(dn++ghs (.rf r p s lo n::cs) (u::us)).length=len*sz:=by simp [ghs,hlen];omega
       have hgk:(dn++ghs (.rf r p s lo n::cs) (u::us))[dn.length]? = some (.lf u):=by simp [ghs,gh]
       have he:=P3 sz len (dn++ghs (.rf r p s lo n::cs) (u::us)) _ hidx;have hm:=h1.move_id (R:=R) (szR:=sz) (esR:=D1 sz len (dn++ghs (.rf r p s lo n::cs) (u::us))) (P:=[]) (by simp only[get];rw[if_neg (by omega)];simp) (Yi4 _ _) he (c:=dn.length%sz) (v:=u)
        (by rw[Ksa,if_pos hmod,Kva,hdm];exact hgk) hfix hnc (r:=nx) (by omega) (p:=[]) (sz:=s) (n:=es'.length) (sz0:=s) (es:=es') (by simp [get]) rfl (Kd _) hwin
       refine⟨_,_,nx+1,hm.roots_eq fun t=>?_,by omega,fun r p hr=>?_, ?_⟩
       ·rw[Au];simp only[D2,get];split
        ·simp only[Dz,Dm];rw[Zym hgl hidx hmod,hdm,Kic];congr 3;simp [ghs,gh]
        ·rename_i hne;rw[Ga];simp only[get,hne,if_false];split
         ·rename_i e;subst e;cases hq:get roots1 nx with
          | none=>rfl
          | some x =>
           have:=hid nx x (by simp only[get];rw[if_neg (by omega)];exact hq);omega
         ·rfl
       ·rw[G0 (by rintro ⟨rfl,_⟩;omega),hag1 r p (by have:=h.ncle;omega)];exact hag r p hr
       ·rw[G0 (by simp),hag1 R [] hRn]
    obtain⟨g1,pl1,nx1,h1,hRn1,hag1,hpl1⟩:=next;obtain⟨g',pl',nx',a1,a2,a3,a4,a5⟩:=Zrf hfix hnc cs us (dn++[d]) roots1 g1 pl1 nx1 (ds,roots2) (by simpa using h1) hRn1 (by simp;omega) hall.2 hag1 htl;refine⟨g',pl',nx',by simpa using a1,a2,a3,a4.trans hpl1,fun t x hx=>?_⟩;obtain⟨y,hy⟩:=a5 t x hx;exact Zlh htk hy
   ·simp at ht
  ·simp at ht
 | [],_::_,_,_,_,_,_,_,_,_,_,h,_,_=>h.elim
 | _::_,[],_,_,_,_,_,_,_,_,_,h,_,_=>h.elim
end Go.Vs
