import Derived.Laws.Append
import Derived.Laws.Cells
import Derived.Below
import Derived.Tactics
import Derived.Laws.Slices
import Derived.Laws.Entries
import Derived.Laws.Small
import Derived.Laws.StructEq
import Derived.ChangeKeysEq
import Derived.Laws.BytesString
import Derived.Laws.Tables
import Derived.Laws.MakeOwn
set_option linter.all false
namespace Go.Vs
def Ka:=@Option.some.injEq
def Kb:=@Prod.mk.injEq
def Kc:=@Nat.le_refl
def Kd:=@Bool.and_eq_true
def Ke:=@List.map_cons
def Kf:=@List.length_cons
def Kg:=@Option.bind_eq_some_iff
def Kh:=@List.mem_cons
def Ki:=@List.length_nil
def Kj:=@List.mem_cons_of_mem
def Kl:=@Option.bind_eq_bind
def Km:=@List.nil_append
def Kn:=@List.cons_append
def Ko:=@List.length_map
def Kp:=@List.mem_cons_self
def Kq:=@Nat.eq_of_beq_eq_true
def Kr:=@Nat.zero_add
def Ks:=@Option.map_eq_some_iff
def Kt:=@List.length_append
def Ku:=@List.getElem?_eq_getElem
def Kv:=@List.getElem?_cons_zero
def Kw:=@List.append_nil
def Kx:=@List.map_append
def Ky:=@List.mem_map
def Kz:=@Nat.lt_of_lt_of_le
def Kaa:=@List.mem_of_getElem?
def Kba:=@List.getElem?_map
def Kca:=@List.mem_append
def Kda:=@Nat.zero_le
def Kea:=@Nat.le_of_ble_eq_true
def Kfa:=@List.getElem?_eq_some_iff
def Kga:=@Nat.add_zero
def Kha:=@Option.map_some
def Kia:=@List.getElem?_append_right
def Kja:=@List.drop_zero
def Kka:=@Bool.false_eq_true
def Kla:=@Nat.le_trans
def Kma:=@List.length_drop
def Kna:=@List.all_eq_true
def Koa:=@List.mem_singleton
def Kpa:=@List.getElem?_cons_succ
def Kqa:=@Nat.lt_succ_self
def Kra:=@Option.bind_some
def Ksa:=@List.getElem?_append_left
def Kta:=@List.nodup_cons
def Kua:=@List.length_take
def Kva:=@List.append_assoc
def Kwa:=@List.getElem?_take
def Kxa:=@List.flatMap_cons
def Kya:=@List.getElem?_set
def Kza:=@List.take_zero
def Kab:=@Array.getD_eq_getD_getElem?
def Kbb:=@Nat.add_mul
def Kcb:=@List.getElem_mem
def Kdb:=@List.getElem?_drop
def Keb:=@List.map_take
def Kfb:=@List.map_drop
def Kgb:=@Nat.add_assoc
def Khb:=@List.take_succ_cons
def Kib:=@List.take_of_length_le
def Kjb:=@List.mem_of_mem_take
def Kkb:=@List.mem_of_mem_drop
def Klb:=@List.drop_succ_cons
def Kmb:=@Bool.or_eq_true
def Knb:=@Int.toNat_natCast
def Kob:=@Int.eq_ofNat_of_zero_le
def Kpb:=@Nat.lt_succ_of_lt
def Kqb:=@List.map_map
def Krb:=@Nat.not_lt
def Ksb:=@Array.length_toList
def Ktb:=@List.map_nil
def Kub:=@Option.getD_some
def Kvb:=@List.mem_range
def Kwb:=@List.drop_eq_getElem_cons
def Kxb:=@Option.map_none
def Kyb:=@List.forall_mem_append
def Kzb:=@Bool.not_eq_true'
def Kac:=@Nat.mul_le_mul_right
def Kbc:=@List.take_succ_eq_append_getElem
def Kcc:=@Nat.le_succ
def Kdc:=@Bool.eq_iff_iff
def Kec:=@Bool.true_and
def Kfc:=@Nat.lt_or_ge
def Kgc:=@Nat.mul_comm
def Khc:=@List.zip_cons_cons
def Kic:=@List.mem_append_right
def Kjc:=@List.getElem?_eq_none
def Kkc:=@List.take_length
def Klc:=@List.getElem?_of_mem
def Kmc:=@Nat.mod_lt
def Knc:=@List.take_append_drop
def Koc:=@Int.le_refl
def Kpc:=@Nat.mod_eq_of_lt
def Kqc:=@List.drop_left'
def Krc:=@List.getElem_of_mem
def Ksc:=@Bool.not_true
def Ktc:=@List.foldl_cons
def Kuc:=@List.filter_cons
def Kvc:=@Array.getElem?_replicate
def Kwc:=@List.getElem?_set_self
def Kxc:=@Nat.sub_zero
def Kyc:=@List.length_eq_zero_iff
def Kzc:=@List.ext_getElem?
def Kad:=@List.set_set
def Kbd:=@List.drop_drop
def Kcd:=@Array.getElem?_eq_getElem
def Kdd:=@List.nodup_append
def Ked:=@List.take_left'
def Kfd:=@List.flatten_cons
def Kgd:=@List.getElem?_set_ne
def Khd:=@Nat.mul_one
def Kid:=@Array.getElem?_append_left
def Kjd:=@List.mem_filter
def Kkd:=@List.isEmpty_iff
def Kld:=@List.getD_eq_getElem?_getD
def Kmd:=@List.filter_eq_self
def Knd:=@Bool.false_and
def Kod:=@Nat.min_eq_left
def Kpd:=@List.getElem?_range
def Kqd:=@Bool.and_self
def Krd:=@Int.toNat_of_nonneg
def Ksd:=@Int.not_lt
def Ktd:=@List.drop_eq_nil_of_le
def Kud:=@Bool.not_false
def Kvd:=@Array.getElem?_setIfInBounds_self_of_lt
def Kwd:=@List.filterMap_cons_some
def Kxd:=@List.mem_filterMap
def Kyd:=@Bool.and_true
def Kzd:=@List.mem_append_left
def Kae:=@List.foldl_append
def Kbe:=@List.map_set
def Kce:=@List.filter_append
def Kde:=@Array.all_eq_true_iff_forall_mem
def Kee:=@List.length_set
def Kfe:=@List.prefix_append
def Kge:=@List.drop_left
def Khe:=@Nat.div_lt_of_lt_mul
def Kie:=@Nat.div_add_mod
def Kje:=@Array.getElem?_eq_none
def Kke:=@List.flatMap_nil
def Kle:=@Nat.not_lt_zero
def Kme:=@Array.getElem?_setIfInBounds_ne
def Kne:=@List.take_add_one
def Koe:=@List.getElem?_eq_none_iff
def Kpe:=@List.any_eq_true
def Kqe:=@List.getElem_cons_succ
def Kre:=@Bool.and_assoc
def Kse:=@Nat.sub_self
def Kte:=@Nat.ne_of_beq_eq_false
def Kue:=@Option.getD_none
def Kve:=@List.take_set_of_le
def Kwe:=@Nat.add_right_cancel_iff
def Kxe:=@Bool.and_false
def Kye:=@Int.not_le
def Kze:=@Bool.not_eq_true
def Kaf:=@Bool.not_eq_false
def Kbf:=@Bool.not_eq_false'
def Kcf:=@Bool.and_eq_false_iff
def Kdf:=@Bool.or_eq_false_iff
def Kef:=@List.cons_prefix_cons
def Kff:=@List.cons_ne_nil
def Kgf:=@Nat.eq_zero_or_pos
def Khf:=@Array.getElem?_toList
def Kif:=@List.length_range
def Kjf:=@List.mem_map_of_mem
def Kkf:=@List.singleton_append
def Klf:=@List.flatten_nil
def Kmf:=@List.range'_succ
def Knf:=@List.eq_nil_of_length_eq_zero
def Kof:=@List.filterMap_cons_none
def Kpf:=@Bool.false_or
def Kqf:=@List.length_filter_le
def Krf:=@Bool.or_true
def Ksf:=@List.foldl_nil
def Ktf:=@List.set_append_right
def Kuf:=@Option.toList_some
def Kvf:=@List.drop_of_length_le
def Kwf:=@List.set_cons_zero
def Kxf:=@List.getElem_take
def Kyf:=@Nat.lt_of_le_of_lt
def Kzf:=@List.findIdx?_eq_some_iff_getElem
def Kag:=@List.findIdx?_eq_none_iff
def Kbg:=@List.take_sublist
def Kcg:=@Option.isSome_iff_exists
def Kdg:=@Nat.lt_trichotomy
def Keg:=@List.getElem?_replicate
def Kfg:=@List.eq_of_mem_replicate
def Kgg:=@List.size_toArray
def Khg:=@List.reverse_nil
def Kig:=@Array.mapM_eq_mapM_toList
def Kjg:=@Array.all_eq_true'
def Kkg:=@Nat.shiftRight_eq_div_pow
def Klg:=@List.getElem?_nil
def Kmg:=@Nat.add_sub_cancel_left
def Kng:=@Int.fdiv_eq_ediv_of_nonneg
def Kog:=@Int.ofNat_eq_natCast
def Kpg:=@List.getElem?_take_of_lt
def Kqg:=@Nat.lt_of_not_le
def Krg:=@List.drop_set_of_lt
def Ksg:=@List.mem_or_eq_of_mem_set
def Ktg:=@List.not_mem_nil
def Kug:=@Int.emod_eq_of_lt
def Kvg:=@List.drop_length
def Kwg:=@List.getElem_map
def Kxg:=@List.pairwise_iff_getElem
def Kyg:=@List.prefix_append_right_inj
def Kzg:=@List.eq_nil_iff_forall_not_mem
def Kah:=@Nat.and_two_pow_sub_one_eq_mod
def Kbh:=@Nat.not_le_of_not_ble_eq_true
def get {α:Type}:List (Nat×α)->Nat->Option α
 | [],_=>none
 | (k,x)::l,t=>if k=t then some x else get l t
def put {α:Type}:List (Nat×α)->Nat->α->List (Nat×α)
 | [],k,x=>[(k,x)]
 | (j,y)::l,k,x=>if j=k then (k,x)::l else (j,y)::put l k x
def del {α:Type}:List (Nat×α)->Nat->List (Nat×α)
 | [],_=>[]
 | (j,y)::l,k=>if j=k then del l k else (j,y)::del l k
theorem Ax {α:Type}(l:List (Nat×α)) (k:Nat) (x:α) (t:Nat):get (put l k x) t=if k=t then some x else get l t:=by
 induction l with
 | nil=>simp [put,get]
 | cons a l ih =>
  obtain⟨j,y⟩:=a;simp only[put];split
  ·rename_i h;subst h;simp only[get];split<;>rfl
  rename_i h;simp only[get,ih];split
  ·rename_i h2;subst h2;rw[if_neg (fun e=>h e.symm)]
  rfl
theorem Hj {α:Type}(l:List (Nat×α)) (k:Nat) (t:Nat):get (del l k) t=if k=t then none else get l t:=by
 induction l with
 | nil=>simp [del,get]
 | cons a l ih =>
  obtain⟨j,y⟩:=a;simp only[del];split
  ·rename_i h;subst h;rw[ih];split<;>simp_all [get]
  rename_i h;simp only[get,ih];split
  ·rename_i h2;subst h2;rw[if_neg (fun e=>h e.symm)]
  rfl
def Ab {α β:Type}(R:α->β->Prop):List α->List β->Prop
 | [],[]=>True
 | a::as,b::bs=>R a b/\Ab R as bs
 | _,_=>False
theorem Ab.length {α β:Type}{R:α->β->Prop}:∀{as:List α}{bs:List β},Ab R as bs->as.length=bs.length
 | [],[],_=>rfl
 | _::_,_::_,h=>by simp [Ab.length h.2]
 | [],_::_,h=>h.elim
 | _::_,[],h=>h.elim
theorem Ab.get {α β:Type}{R:α->β->Prop}:∀{as:List α}{bs:List β},Ab R as bs->∀(i:Nat) (a:α),as[i]? = some a->∃b,bs[i]? = some b/\R a b
 | [],[],_,i,a,h=>by simp at h
 | x::as,y::bs,h,0,a,e=>by simp at e;subst e;exact⟨y,rfl,h.1⟩
 | x::as,y::bs,h,i+1,a,e=>by simpa using Ab.get h.2 i a (by simpa using e)
 | [],_::_,h,_,_,_=>h.elim
 | _::_,[],h,_,_,_=>h.elim
theorem Ab.mono {α β:Type}{R R':α->β->Prop}(k:∀a b,R a b->R' a b):∀{as:List α}{bs:List β},Ab R as bs->Ab R' as bs
 | [],[],_=>trivial
 | _::_,_::_,h=>⟨k _ _ h.1,Ab.mono k h.2⟩
 | [],_::_,h=>h.elim
 | _::_,[],h=>h.elim
theorem Ab.of_get {α β:Type}{R:α->β->Prop}:∀{as:List α}{bs:List β},as.length=bs.length->(∀(i:Nat) (a:α) (b:β),as[i]? = some a->bs[i]? = some b->R a b)->Ab R as bs
 | [],[],_,_=>trivial
 | a::as,b::bs,h,k=>⟨k 0 a b rfl rfl,Ab.of_get (by simpa using h) fun i x y hx hy=>k (i+1) x y (by simpa using hx) (by simpa using hy)⟩
 | [],_::_,h,_=>by simp at h
 | _::_,[],h,_=>by simp at h
abbrev Af:=List (Nat×Nat)
inductive D where
 | lf (v:Value)
 | sl (sz:Nat) (es:List (List D))
 | hole
 deriving Inhabited
inductive C where
 | un
 | nl (sz:Nat)
 | lf (v:Value)
 | rf (r:Nat) (p:Af) (sz lo n:Nat)
 | pe (r:Nat) (p:Af) (i c:Nat)
 | pb (r:Nat) (c:Nat)
 deriving Inhabited
inductive A where
 | c (x:C)
 | ag (cs:List C)
 deriving Inhabited
inductive V where
 | un
 | a (x:A)
 | tp (xs:List A)
 | fn (f:FuncId) (caps:List A)
 | sb (r n:Nat)
 deriving Inhabited
inductive Root where
 | tr (sz:Nat) (es:List (List D))
 | im (sz:Nat) (es:List (List D))
 | bx (cs:List C)
 | ib (cs:List C)
 deriving Inhabited
structure St where
 env:List (Nat×V)
 roots:List (Nat×Root)
 next:Nat
 fix:Nat
def Am:Nat->List (List D)->Af->Option (Nat×List (List D))
 | sz,es,[]=>some (sz,es)
 | _,es,(i,c)::p =>
  match (es[i]?).bind (·[c]?) with
  | some (.sl sz' es')=>Am sz' es' p
  | _=>none
theorem Nc (sz:Nat) (es:List (List D)) (p q:Af):Am sz es (p++q)=(Am sz es p).bind fun n=>Am n.1 n.2 q:=by
 induction p generalizing sz es with
 | nil=>rfl
 | cons a p ih =>
  obtain⟨i,c⟩:=a;simp only[Kn,Am];split
  ·exact ih _ _
  rfl
theorem Zg1 {sz:Nat}{es:List (List D)}{p:Af}{n:Nat×List (List D)}(h:Am sz es p=some n) (i c:Nat) :
  Am sz es (p++[(i,c)])=match (n.2[i]?).bind (·[c]?) with|some (.sl sz' es')=>some (sz',es')|_=>none:=by
 rw[Nc,h];simp only[Kra,Am]
structure Pl where
 nil:Bool
 b:Nat
 off:Nat
 cap:Nat
 sz:Nat
 raw:Option Addr
 deriving Inhabited
abbrev Lab:=Nat->Nat->Option (Nat×Af)
abbrev Pls:=Nat->Af->Pl
def Pl.base (L:Pl):Option Addr:=if L.nil then L.raw else some ⟨L.b,L.off,none⟩
def hdr (L:Pl) (n:Nat):Value:=.slice L.base n L.cap
def DV (L:Pl):D->Value->Prop
 | .lf x,v=>v=x/\x.oneCell'=true
 | .sl sz es,v=>L.sz=sz/\v=hdr L es.length
 | .hole,v=>v.oneCell'=true
def Win (L:Pl) (sz lo n:Nat) (v:Value):Prop :=
 L.sz=sz/\(L.nil=true->L.cap=0)/\lo+n<=L.cap/\∃A:Option Addr,v=.slice A n (L.cap-lo)/\(lo<L.cap\/lo=0->A=if L.nil then L.raw else some ⟨L.b,L.off+lo*L.sz,none⟩)
def CR (pl:Pls) (nx:Nat):C->Value->Prop
 | .un,v=>v.oneCell'=true
 | .nl _,v=>v=.slice none 0 0
 | .lf x,v=>v=x/\x.oneCell'=true
 | .rf r p sz lo n,v=>r<nx/\Win (pl r p) sz lo n v
 | .pe r p i c,v=>r<nx/\(pl r p).nil=false/\v=.pointer (some ⟨(pl r p).b,(pl r p).off+(i*(pl r p).sz+c),none⟩)
 | .pb r c,v=>r<nx/\v=.pointer (some ⟨(pl r []).b,(pl r []).off+c,none⟩)
def AR (pl:Pls) (nx:Nat):A->Value->Prop
 | .c x,v=>CR pl nx x v
 | .ag cs,v=>∃vs:List Value,v=.agg vs.toArray/\Ab (CR pl nx) cs vs
def VR (pl:Pls) (nx:Nat):V->Value->Prop
 | .un,_=>True
 | .a x,v=>AR pl nx x v
 | .tp xs,v=>∃vs:List Value,v=.tuple vs.toArray/\Ab (AR pl nx) xs vs
 | .fn f caps,v=>∃vs:List Value,v=.func (.func f) #[] vs.toArray/\Ab (AR pl nx) caps vs
 | .sb r n,v=>r<nx/\v=.slice (some ⟨(pl r []).b,(pl r []).off,none⟩) n n
structure NodeC (w:World) (pl:Pls) (r:Nat) (p:Af) (sz:Nat) (es:List (List D)):Prop where
 szp:(pl r p).sz=sz
 le:es.length<=(pl r p).cap
 nil:(pl r p).nil=true->(pl r p).cap=0
 szs:∀e∈es,e.length=sz
 cells:∀i e c d,es[i]? = some e->e[c]? = some d->∃v,w.cell? ⟨(pl r p).b,(pl r p).off+(i*sz+c),none⟩=some v/\DV (pl r (p++[(i,c)])) d v
def N2 (w:World) (g:Lab) (pl:Pls) (r:Nat) (p:Af):Prop :=
 ∀j,j<(pl r p).cap*(pl r p).sz->g (pl r p).b ((pl r p).off+j)=some (r,p)/\(∃v,w.cell? ⟨(pl r p).b,(pl r p).off+j,none⟩=some v)/\w.frozen? ⟨(pl r p).b,(pl r p).off+j,none⟩=false
def Zr4 (st:Nat->Nat->Prop) (pl:Pls) (r:Nat) (p:Af) (n:Nat):Prop:=∀j,j<n*(pl r p).sz->st (pl r p).b ((pl r p).off+j)
def Dj (st:Nat->Nat->Prop) (w:World) (g:Lab) (pl:Pls) (nx:Nat) (r:Nat):Root->Prop
 | .tr sz es=>∀p n,Am sz es p=some n->NodeC w pl r p n.1 n.2/\N2 w g pl r p
 | .im sz es=>∀p n,Am sz es p=some n->NodeC w pl r p n.1 n.2/\Zr4 st pl r p n.2.length
 | .bx cs=>∀c x,cs[c]? = some x->∃v,w.cell? ⟨(pl r []).b,(pl r []).off+c,none⟩=some v/\CR pl nx x v/\g (pl r []).b ((pl r []).off+c)=some (r,[(0,c)])/\w.frozen? ⟨(pl r []).b,(pl r []).off+c,none⟩=false
 | .ib cs=>∀c x,cs[c]? = some x->∃v,w.cell? ⟨(pl r []).b,(pl r []).off+c,none⟩=some v/\CR pl nx x v/\st (pl r []).b ((pl r []).off+c)
class Glb where
 tab:List (Nat×List UInt8)
def Zf1:List (Nat×List UInt8)->Nat->Option (List UInt8)
 | [],_=>none
 | x::l,b=>match Nat.beq x.1 b with
  | true=>some x.2
  | false=>Zf1 l b
def F0 [Glb] (b o:Nat):Option Value:=match Zf1 Glb.tab b with
 | some l=>match l[o]? with
  | some y=>some (.int .u8 y.toNat)
  | none=>none
 | none=>none
def S8 [Glb] (b o:Nat):Nat->Option (List Value)
 | 0=>some []
 | m+1=>match F0 b o,S8 b (o+1) m with
  | some v,some vs=>some (v::vs)
  | _,_=>none
variable [Glb]
structure Fr (w0:World) (own0:Nat->Nat->Prop) (w:World):Prop where
 os:w.os=w0.os
 tape:w.tape=w0.tape
 output:w.output=w0.output
 size:w0.heap.size<=w.heap.size
 block:∀b,b<w0.heap.size->(∀o,¬own0 b o)->w.heap[b]? = w0.heap[b]?
 cell:∀b o,b<w0.heap.size->¬own0 b o->w.cell? ⟨b,o,none⟩=w0.cell? ⟨b,o,none⟩/\w.frozen? ⟨b,o,none⟩=w0.frozen? ⟨b,o,none⟩
 gl:∀b o v,F0 b o=some v->b<w0.heap.size/\¬own0 b o/\w0.cell? ⟨b,o,none⟩=some v
theorem Fr.glb {w0 w:World}{own0:Nat->Nat->Prop}(h:Fr w0 own0 w){b o:Nat}{v:Value}(hv:F0 b o=some v):w.cell? ⟨b,o,none⟩=some v:=by
 obtain⟨h1,h2,h3⟩:=h.gl b o v hv;rw[(h.cell b o h1 h2).1,h3]
def Fj (w0:World) (own0:Nat->Nat->Prop) (b o:Nat):Prop:=b<w0.heap.size/\¬own0 b o
structure Hp (w0:World) (own0:Nat->Nat->Prop) (pl0:Pls) (g:Lab) (pl:Pls) (roots:List (Nat×Root)) (nx nc fix:Nat) (w:World):Prop where
 fr:Fr w0 own0 w
 lab:∀b o x,g b o=some x->b<w.heap.size/\(w0.heap.size<=b\/own0 b o)/\x.1<nx
 fixed:∀r p,r<fix->pl r p=pl0 r p
 fixle:fix<=nx
 ncle:nc<=nx
 roots:∀r x,get roots r=some x->r<nx/\Dj (Fj w0 own0) w g pl nc r x
structure Rel (N:Nat) (w0:World) (own0:Nat->Nat->Prop) (pl0:Pls) (g:Lab) (pl:Pls) (S:St) (a:Act) (w:World):Prop where
 hp:Hp w0 own0 pl0 g pl S.roots S.next S.next S.fix w
 size:a.tmps.size=N
 defers:a.defers=[]
 env:∀t x,get S.env t=some x->VR pl S.next x (a.tmps.getD t undef)
theorem Win.one {L:Pl}{sz lo n:Nat}{v:Value}(h:Win L sz lo n v):v.oneCell'=true:=by obtain⟨_,_,_,A,rfl,_⟩:=h;rfl
theorem CR.one {pl:Pls}{nx:Nat}{x:C}{v:Value}(h:CR pl nx x v):v.oneCell'=true:=by
 cases x with
 | un=>exact h
 | nl sz=>rw[show v=_ from h];rfl
 | lf x=>rw[h.1];exact h.2
 | rf r p sz lo n=>exact h.2.one
 | pe r p i c=>rw[h.2.2];rfl
 | pb r c=>rw[h.2];rfl
theorem DV.one {L:Pl}{d:D}{v:Value}(h:DV L d v):v.oneCell'=true:=by
 cases d with
 | lf x=>rw[h.1];exact h.2
 | sl sz es=>rw[h.2];rfl
 | hole=>exact h
theorem Yfl {v:Value}(h:v.oneCell'=true):v.cells=#[v]:=by cases v<;>first|rfl|(simp [Value.oneCell']at h)
theorem CR.mono {pl:Pls}{nx nx':Nat}(h:nx<=nx'){x:C}{v:Value}(k:CR pl nx x v):CR pl nx' x v:=by
 cases x<;>first|exact k|exact⟨Kz k.1 h,k.2⟩
theorem AR.mono {pl:Pls}{nx nx':Nat}(h:nx<=nx'){x:A}{v:Value}(k:AR pl nx x v):AR pl nx' x v:=by
 cases x with
 | c x=>exact CR.mono h k
 | ag cs=>obtain⟨vs,rfl,hk⟩:=k;exact⟨vs,rfl,hk.mono fun _ _=>CR.mono h⟩
theorem VR.mono {pl:Pls}{nx nx':Nat}(h:nx<=nx'){x:V}{v:Value}(k:VR pl nx x v):VR pl nx' x v:=by
 cases x with
 | un=>trivial
 | a x=>exact AR.mono h k
 | tp cs=>obtain⟨vs,rfl,hk⟩:=k;exact⟨vs,rfl,hk.mono fun _ _=>AR.mono h⟩
 | fn f cs=>obtain⟨vs,rfl,hk⟩:=k;exact⟨vs,rfl,hk.mono fun _ _=>AR.mono h⟩
 | sb r n=>exact⟨Kz k.1 h,k.2⟩
def Es (nx:Nat) (pl pl':Pls):Prop:=∀r p,r<nx->pl' r p=pl r p
theorem CR.agree {pl pl':Pls}{nx:Nat}(h:Es nx pl pl'){x:C}{v:Value}(k:CR pl nx x v):CR pl' nx x v:=by
 cases x with
 | rf r p sz lo n=>exact⟨k.1,by rw[h r p k.1];exact k.2⟩
 | pe r p i c=>exact⟨k.1,by rw[h r p k.1];exact k.2⟩
 | pb r c=>exact⟨k.1,by rw[h r [] k.1];exact k.2⟩
 | _=>exact k
theorem AR.agree {pl pl':Pls}{nx:Nat}(h:Es nx pl pl'){x:A}{v:Value}(k:AR pl nx x v):AR pl' nx x v:=by
 cases x with
 | c x=>exact CR.agree h k
 | ag cs=>obtain⟨vs,rfl,hk⟩:=k;exact⟨vs,rfl,hk.mono fun _ _=>CR.agree h⟩
theorem VR.agree {pl pl':Pls}{nx:Nat}(h:Es nx pl pl'){x:V}{v:Value}(k:VR pl nx x v):VR pl' nx x v:=by
 cases x with
 | un=>trivial
 | a x=>exact AR.agree h k
 | tp cs=>obtain⟨vs,rfl,hk⟩:=k;exact⟨vs,rfl,hk.mono fun _ _=>AR.agree h⟩
 | fn f cs=>obtain⟨vs,rfl,hk⟩:=k;exact⟨vs,rfl,hk.mono fun _ _=>AR.agree h⟩
 | sb r n=>exact⟨k.1,by rw[h r [] k.1];exact k.2⟩
end Go.Vs
namespace Go.Vs
variable [Glb]
inductive Opd where
 | t (n:Nat)
 | k (v:V)
 deriving Inhabited
def Zeu (P:Program):Nat->TypeId->List TypeId
 | 0,t=>[t]
 | n+1,t =>
  match P.underlying t with
  | some (.struct fs)=>fs.toList.flatMap fun f=>Zeu P n f.type
  | some (.array k e)=>(List.range k).flatMap fun _=>Zeu P n e
  | _=>[t]
def Yja (P:Program) (t:TypeId):Nat :=
 match P.underlying t with
 | some (.slice e)=>P.cellsOf e
 | _=>0
def Zl (P:Program) (t:TypeId):Value->C
 | .slice none 0 0=>.nl (Yja P t)
 | v=>if v.oneCell' then .lf v else .un
def Zm (P:Program):List TypeId->List Value->List C
 | t::ts,v::vs=>Zl P t v::Zm P ts vs
 | [],v::vs=>Zl P 0 v::Zm P [] vs
 | _,[]=>[]
def Zk6 (P:Program) (t:TypeId):Value->V
 | .agg cs=>if cs.all (·.oneCell') then .a (.ag (Zm P (Zeu P 8 t) cs.toList)) else .un
 | v=>if v.oneCell' then .a (.c (Zl P t v)) else .un
theorem Zk5 (P:Program) (t:TypeId) (pl:Pls) (nx:Nat) (v:Value) (h:v.oneCell'=true):CR pl nx (Zl P t v) v:=by
 unfold Zl;split
 ·exact rfl
 rw[if_pos h];exact⟨rfl,h⟩
theorem Ze6 (P:Program) (pl:Pls) (nx:Nat):∀(ts:List TypeId) (l:List Value),(∀v∈l,v.oneCell'=true)->Ab (CR pl nx) (Zm P ts l) l
 | [],[],_=>trivial
 | _::_,[],_=>trivial
 | [],v::l,h=>⟨Zk5 P 0 pl nx v (h v (by simp)),Ze6 P pl nx [] l fun u hu=>h u (by simp [hu])⟩
 | t::ts,v::l,h=>⟨Zk5 P t pl nx v (h v (by simp)),Ze6 P pl nx ts l fun u hu=>h u (by simp [hu])⟩
theorem Yfs (P:Program) (t:TypeId) (pl:Pls) (nx:Nat) (v:Value):VR pl nx (Zk6 P t v) v:=by
 unfold Zk6;split
 ·rename_i cs;split
  ·rename_i h;exact⟨cs.toList,by simp,Ze6 P pl nx _ _ fun u hu=>by simpa using (Kde.1 h) u (by simpa using hu)⟩
  trivial
 split
 ·rename_i h;exact Zk5 P t pl nx v h
 trivial
def trO (P:Program) (t:TypeId):Operand->Option Opd
 | .tmp t=>some (.t t)
 | .const v=>some (.k (Zk6 P t v))
 | .global g=>some (.k (.a (.c (.lf (.pointer (some ⟨g,0,none⟩))))))
 | .func f=>some (.k (.fn f []))
def St.opd (S:St):Opd->V
 | .t n=>(get S.env n).getD .un
 | .k v=>v
theorem Bk {N w0 own0 pl0 g pl S a w}(h:Rel N w0 own0 pl0 g pl S a w){P:Program}{ty:TypeId}{x:Operand}{y:Opd}(hx:trO P ty x=some y):VR pl S.next (S.opd y) (a.eval x):=by
 cases x with
 | tmp t =>
  simp only[trO,Ka]at hx;subst hx;simp only[St.opd,Act.eval];cases hg:get S.env t with
  | none=>trivial
  | some v=>exact h.env t v hg
 | const v=>simp only[trO,Ka]at hx;subst hx;exact Yfs P ty pl S.next v
 | global g =>
  simp only[trO,Ka]at hx;subst hx;exact⟨rfl,rfl⟩
 | func f=>simp only[trO,Ka]at hx;subst hx;exact⟨[],rfl,trivial⟩
inductive M where
 | rd
 | rx
 | ow
 | io
 deriving DecidableEq,Inhabited
def We (P:Program):List Field->Nat->Bool
 | [],_=>true
 | f :: fs, i => decide (f.name ≠ "_") && decide (f.offset = i) && (match P.underlying f.type with | some (.int .i64) => true | _ => false) && We P fs (i + 1)
inductive I where
 | mv (x:Opd)
 | pick (c a b:Opd)
 | load (n:Option Nat) (x:Opd)
 | nilc (x:Opd)
 | bin (op:BinOp) (x y:Opd)
 | beq (neg:Bool) (x y:Opd)
 | aeq (neg:Bool) (n:Nat) (x y:Opd)
 | un (op:UnOp) (x:Opd)
 | conv (k:IntKind) (x:Opd)
 | b2s (x:Opd)
 | slc (sz:Nat) (x:Opd) (lo hi:Option Opd)
 | ssl (x:Opd) (lo hi:Option Opd)
 | fld (off:Nat) (n:Option Nat) (x:Opd)
 | fad (off:Nat) (x:Opd)
 | iad (sz:Nat) (x i:Opd)
 | iaa (len sz:Nat) (x i:Opd)
 | idx (x i:Opd)
 | ixa (len:Nat) (n:Option Nat) (sz:Nat) (x i:Opd)
 | ext (i:Nat) (x:Opd)
 | len (x:Opd)
 | sln (x:Opd)
 | sid (x:Opd)
 | build (zero:List C) (parts:List (Nat×Nat×Opd))
 | mkf (f:FuncId) (caps:List Opd)
 deriving Inhabited
inductive W where
 | alloc (zero:List C)
 | box (x:Opd)
 | lit (sz len:Nat) (zero:List C) (parts:List (Nat×Opd))
 | store (n:Nat) (x v:Opd)
 | s2b (x:Opd)
 | mks (sz bytes:Nat) (zero:List C) (l c:Opd)
 | app (sz bytes:Nat) (zero:List C) (x y:Opd)
 | aps (zero:List C) (x y:Opd)
 | clr (sz:Nat) (zero:List C) (x:Opd)
 | call (f:FuncId) (args:List Opd)
 | calv (f:Opd) (args:List Opd)
 deriving Inhabited
inductive J where
 | rd (i:I)
 | wr (j:W)
 deriving Inhabited
structure GI where
 dst:Option Nat
 op:J
 guard:Option (Nat×Bool)
 deriving Inhabited
def N6:TypeDesc->Bool
 | .struct _|.array _ _=>true
 | _=>false
def Ms (P:Program) (t:TypeId) (v:Value):Option (List C):=if v.cells.all (·.oneCell') then some (Zm P (Zeu P 8 t) v.cells.toList) else none
def Jy (P:Program):List TypeId->List Operand->Option (List Opd)
 | _,[]=>some []
 | [],x::l=>do some ((<- trO P 0 x)::(<- Jy P [] l))
 | t::ts,x::l=>do some ((<- trO P t x)::(<- Jy P ts l))
def Zcb (P:Program) (t:TypeId):List (Nat×Operand)->Option (List (Nat×Opd))
 | []=>some []
 | (i,x)::l=>do some ((i,<-trO P t x)::(<- Zcb P t l))
def Hx (P:Program):Option Operand->Option (Option Opd)
 | none=>some none
 | some x=>(trO P 0 x).map some
def Ts (P:Program) (t:TypeId):Option (Option Nat):=do
 let d <- P.underlying t
 let i <- P.info? t
 some (if N6 d then some i.size else none)
def Zca (P:Program) (fs:Array Field):List (Nat×Operand)->Option (List (Nat×Nat×Opd))
 | []=>some []
 | (i,x)::l=>do
  let f <- fs[i]?
  let j <- P.info? f.type
  some ((f.offset,j.size,<-trO P f.type x)::(<- Zca P fs l))
def Zb9 (P:Program) (e:TypeId) (sz:Nat):List (Nat×Operand)->Option (List (Nat×Nat×Opd))
 | []=>some []
 | (i,x)::l=>do some ((i*sz,sz,<-trO P e x)::(<- Zb9 P e sz l))
def trR (P:Program) (ty:TypeId):Op->Option I
 | .move x|.assign x=>(trO P ty x).map .mv
 | .pick c a b=>do some (.pick (<- trO P 0 c) (<- trO P ty a) (<- trO P ty b))
 | .build t parts=>do
  let i <- P.info? t
  let z <- i.zero
  match P.underlying t with
  | some (.struct fs)=>if (fs.all fun f=>(P.info? f.type).isSome) then some (.build (<- Ms P t z) (<- Zca P fs parts.toList)) else none
  | some (.array _ e)=>do
   let j <- P.info? e
   some (.build (<- Ms P t z) (<- Zb9 P e j.size parts.toList))
  | _=>none
 | .load t x=>do some (.load (<- Ts P t) (<- trO P 0 x))
 | .nilCheck x=>(trO P 0 x).map .nilc
 | .binOp op t x y _ =>
  match P.underlying t,op with
  | some .bool,.eql=>do some (.beq false (<- trO P 0 x) (<- trO P 0 y))
  | some .bool,.neq=>do some (.beq true (<- trO P 0 x) (<- trO P 0 y))
  | some (.struct fs),.eql=>if We P fs.toList 0&&(!P.eqGuardType P.depth t&&!P.stoodInHeld t) then do some (.aeq false fs.size (<- trO P 0 x) (<- trO P 0 y)) else none
  | some (.struct fs),.neq=>if We P fs.toList 0&&(!P.eqGuardType P.depth t&&!P.stoodInHeld t) then do some (.aeq true fs.size (<- trO P 0 x) (<- trO P 0 y)) else none
  | _,_=>do some (.bin op (<- trO P 0 x) (<- trO P 0 y))
 | .unOp op _ x=>(trO P 0 x).map (.un op)
 | .convert s d x=>do
  let x <- trO P s x
  match P.underlying s,P.underlying d with
  | some (.int _),some (.int k)=>some (.conv k x)
  | some (.slice e),some .string=>match P.underlying e with|some (.int .u8)=>some (.b2s x)|_=>none
  | some .string,some .string=>some (.sid x)
  | _,_=>none
 | .slice t x lo hi none =>
  match P.underlying t with
  | some (.slice e)=>do
   let i <- P.info? e
   some (.slc i.size (<- trO P 0 x) (<- Hx P lo) (<- Hx P hi))
  | some .string=>do some (.ssl (<- trO P 0 x) (<- Hx P lo) (<- Hx P hi))
  | _=>none
 | .fieldAddr s x f =>
  match P.underlying s with
  | some (.struct fs)=>do
   let f <- fs[f]?
   let i <- P.info? f.type
   if i.size=0 then none else some (.fad f.offset (<- trO P 0 x))
  | _=>none
 | .field s x f =>
  match P.underlying s with
  | some (.struct fs)=>do
   let f <- fs[f]?
   some (.fld f.offset (<- Ts P f.type) (<- trO P 0 x))
  | _=>none
 | .indexAddr t x i =>
  match P.underlying t with
  | some (.slice e)=>do
   let j <- P.info? e
   some (.iad j.size (<- trO P 0 x) (<- trO P 0 i))
  | some (.array n e)=>do
   let j <- P.info? e
   some (.iaa n j.size (<- trO P 0 x) (<- trO P 0 i))
  | _=>none
 | .index t x i =>
  match P.underlying t with
  | some .string=>do some (.idx (<- trO P 0 x) (<- trO P 0 i))
  | some (.array n e)=>do
   let j <- P.info? e
   some (.ixa n (<- Ts P e) j.size (<- trO P 0 x) (<- trO P 0 i))
  | _=>none
 | .extract t i=>(trO P 0 t).map (.ext i)
 | .makeFunc (.func f) first caps=>if first.size=0 then (Jy P [] caps.toList).map (.mkf f) else none
 | .call { callee:=.builtin .len,args,argTypes } =>
  match args.toList,argTypes.toList with
  | [x],[t]=>match P.underlying t with
   | some (.slice _)=>(trO P t x).map .len
   | some .string=>(trO P t x).map .sln
   | _=>none
  | _,_=>none
 | _=>none
def trW (P:Program):Op->Option W
 | .alloc e=>do
  let i <- P.info? e
  let z <- i.zero
  some (.alloc (<- Ms P e z))
 | .box e x=>(trO P e x).map .box
 | .buildSlice t len parts =>
  match P.underlying t with
  | some (.slice e)=>do
   let i <- P.info? e
   let z <- i.zero
   let zc <- Ms P e z
   if zc.length=i.size/\len*i.size<=2^24/\0<i.size then some (.lit i.size len zc (<- Zcb P e parts.toList)) else none
  | _=>none
 | .store t x v=>do
  let i <- P.info? t
  some (.store i.size (<- trO P 0 x) (<- trO P t v))
 | .convert s d x=>do
  let x <- trO P s x
  match P.underlying s,P.underlying d with
  | some .string,some (.slice e)=>match P.underlying e with|some (.int .u8)=>some (.s2b x)|_=>none
  | _,_=>none
 | .makeSlice t l c =>
  match P.underlying t with
  | some (.slice e)=>do
   let i <- P.info? e
   let z <- i.zero
   let zc <- Ms P e z
   if zc.length=i.size/\0<i.size then some (.mks i.size i.bytes zc (<- trO P 0 l) (<- trO P 0 c)) else none
  | _=>none
 | .call { callee:=.builtin .append,args,argTypes } =>
  match args.toList,argTypes.toList with
  | [x,y],[t,u]=>match P.underlying t,P.underlying u with
   | some (.slice e),some (.slice _)=>do
    let i <- P.info? e
    let z <- i.zero
    let zc <- Ms P e z
    if zc.length=i.size/\0<i.size/\0<i.bytes then some (.app i.size i.bytes zc (<- trO P t x) (<- trO P u y)) else none
   | some (.slice e),some .string=>do
    let i <- P.info? e
    let z <- i.zero
    let zc <- Ms P e z
    if zc.length=1/\i.size=1/\i.bytes=1 then some (.aps zc (<- trO P t x) (<- trO P u y)) else none
   | _,_=>none
  | _,_=>none
 | .call { callee:=.builtin .clear,args,argTypes } =>
  match args.toList,argTypes.toList with
  | [x],[t]=>match P.underlying t with
   | some (.slice e)=>do
    let i <- P.info? e
    let z <- i.zero
    let zc <- Ms P e z
    if zc.length=i.size/\0<i.size then some (.clr i.size zc (<- trO P t x)) else none
   | _=>none
  | _,_=>none
 | .call { callee:=.value (.func f),args,argTypes } =>
  match P.funcs[f]? with
  | some fn => if fn.body.isSome && fn.name != "runtime.NumGoroutine" then (Jy P argTypes.toList args.toList).map (.call f) else none
  | none=>none
 | .call { callee:=.value (.tmp t),args,argTypes }=>do some (.calv (.t t) (<- Jy P argTypes.toList args.toList))
 | _=>none
def St.node (S:St) (r:Nat) (p:Af):Option (Nat×List (List D)) :=
 match get S.roots r with
 | some (.tr sz es)=>Am sz es p
 | some (.im sz es)=>Am sz es p
 | _=>none
def St.bcells (S:St) (r:Nat):Option (List C) :=
 match get S.roots r with
 | some (.bx cs)=>some cs
 | some (.ib cs)=>some cs
 | _=>none
def toC (r:Nat) (p:Af) (i c:Nat):D->C
 | .lf v=>.lf v
 | .sl sz es=>.rf r (p++[(i,c)]) sz 0 es.length
 | .hole=>.un
def Co (r:Nat) (p:Af) (i:Nat):Nat->List D->List C
 | _,[]=>[]
 | c,d::ds=>toC r p i c d::Co r p i (c+1) ds
def O2:BinOp->Value->Value->Option Value
 | .shl,.int k a,.int _ b=>if 0<=b then some (.int k (k.wrap (a*2^(min b.toNat k.bits)))) else none
 | .shr,.int k a,.int _ b=>if 0<=b then some (.int k (a.fdiv (2^(min b.toNat k.bits)))) else none
 | .add,.int k a,.int k' b=>if k=k' then some (.int k (k.wrap (a+b))) else none
 | .sub,.int k a,.int k' b=>if k=k' then some (.int k (k.wrap (a-b))) else none
 | .mul,.int k a,.int k' b=>if k=k' then some (.int k (k.wrap (a*b))) else none
 | .quo,.int k a,.int k' b=>if k=k'/\b≠0 then some (.int k (k.wrap (a.tdiv b))) else none
 | .rem,.int k a,.int k' b=>if k=k'/\b≠0 then some (.int k (a.tmod b)) else none
 | .and,.int k a,.int k' b=>if k=k' then some (.int k (k.wrap (BitVec.ofInt k.bits a&&&BitVec.ofInt k.bits b).toNat)) else none
 | .or,.int k a,.int k' b=>if k=k' then some (.int k (k.wrap (BitVec.ofInt k.bits a ||| BitVec.ofInt k.bits b).toNat)) else none
 | .xor,.int k a,.int k' b=>if k=k' then some (.int k (k.wrap (BitVec.ofInt k.bits a ^^^ BitVec.ofInt k.bits b).toNat)) else none
 | .andNot,.int k a,.int k' b=>if k=k' then some (.int k (k.wrap (BitVec.ofInt k.bits a&&&~~~BitVec.ofInt k.bits b).toNat)) else none
 | .eql,.int k a,.int k' b=>if k=k' then some (.bool (a==b)) else none
 | .neq,.int k a,.int k' b=>if k=k' then some (.bool (a != b)) else none
 | .lss,.int k a,.int k' b=>if k=k' then some (.bool (decide (a<b))) else none
 | .leq,.int k a,.int k' b=>if k=k' then some (.bool (decide (a<=b))) else none
 | .gtr,.int k a,.int k' b=>if k=k' then some (.bool (decide (a > b))) else none
 | .geq,.int k a,.int k' b=>if k=k' then some (.bool (decide (a ≥ b))) else none
 | .add,.string a,.string b=>if a.size+b.size<9223372036854775808 then some (.string (a++b)) else none
 | .eql,.string a,.string b=>some (.bool (a.toList==b.toList))
 | .neq,.string a,.string b=>some (.bool (!(a.toList==b.toList)))
 | .lss,.string a,.string b=>some (.bool (Op.bytesLess a.toList b.toList))
 | .leq,.string a,.string b=>some (.bool (Op.bytesLess a.toList b.toList||a.toList==b.toList))
 | .gtr,.string a,.string b=>some (.bool (!(Op.bytesLess a.toList b.toList||a.toList==b.toList)))
 | .geq,.string a,.string b=>some (.bool (!Op.bytesLess a.toList b.toList))
 | _,_,_=>none
theorem Yq6 {P : Program} {op : BinOp} {t : TypeId} {x y : Operand} {u v r : Value} (h : O2 op u v = some r) (w : World) :
    (do eqGuard op t x y u v; binOp op t u v : Sem Value).run P w = .ok r w := by
  unfold O2 at h;split at h
  case h_18 a b =>
    split at h
    · rename_i hk
      simp only [Ka] at h; subst h;simp only [eqGuard, binOp, Op.stringOp, Sem.run_bind];have e : ¬ (((a.size + b.size : Nat) : Int) > IntKind.i64.max) := by rw [show IntKind.i64.max = 9223372036854775807 from rfl]; omega
      rw [if_neg e];simp
    simp at h
  all_goals first
    | (simp at h; done)
    | (split at h
       · rename_i hk
         simp only [Ka] at h; subst h
         first
          | (obtain ⟨rfl, hb⟩ := hk; simp [eqGuard, binOp, Op.intDiv, hb]; done)
          | (subst hk; simp [eqGuard, binOp, Op.intArith, Op.intBits, Op.intCmp]; done)
          | (simp [eqGuard, binOp, Op.shift, Ksd.2 hk]; done)
       · simp at h)
    | (simp only [Ka] at h; subst h
       simp [eqGuard, binOp, Op.stringOp]; done)
def Znz:UnOp->Value->Option Value
 | .not,.bool b=>some (.bool (!b))
 | .neg,.int k n=>some (.int k (k.wrap (0-n)))
 | _,_=>none
end Go.Vs
namespace Go.Vs
variable [Glb]
def Dr (roots:List (Nat×Root)) (r:Nat) (p:Af):Option (Nat×List (List D)) :=
 match get roots r with
 | some (.tr sz es)=>Am sz es p
 | some (.im sz es)=>Am sz es p
 | _=>none
theorem Ra (S:St) (r:Nat) (p:Af):S.node r p=Dr S.roots r p:=rfl
def Zf (roots:List (Nat×Root)) (r:Nat):Option (List C) :=
 match get roots r with
 | some (.bx cs)=>some cs
 | some (.ib cs)=>some cs
 | _=>none
section
variable {w0:World} {own0:Nat->Nat->Prop} {pl0:Pls} {g:Lab} {pl:Pls} {roots:List (Nat×Root)} {nx fix:Nat} {w:World}
theorem Hp.node {nc:Nat}(h:Hp w0 own0 pl0 g pl roots nx nc fix w){r:Nat}{p:Af}{n:Nat×List (List D)}(hn:Dr roots r p=some n) :
  r<nx/\NodeC w pl r p n.1 n.2:=by
 unfold Dr at hn;split at hn
 ·rename_i sz es hg;obtain⟨a,b⟩:=h.roots r _ hg;exact⟨a,(b p n hn).1⟩
 ·rename_i sz es hg;obtain⟨a,b⟩:=h.roots r _ hg;exact⟨a,(b p n hn).1⟩
 simp at hn
theorem Zyo {r:Nat}{p:Af}{n:Nat×List (List D)}(hn:Dr roots r p=some n) (i c:Nat) :
  Dr roots r (p++[(i,c)])=match (n.2[i]?).bind (·[c]?) with|some (.sl sz' es')=>some (sz',es')|_=>none:=by
 unfold Dr at hn ⊢;cases hg:get roots r with
 | none=>simp [hg]at hn
 | some x =>
  cases x with
  | tr sz es=>simp only[hg]at hn ⊢;exact Zg1 hn i c
  | im sz es=>simp only[hg]at hn ⊢;exact Zg1 hn i c
  | bx cs=>simp [hg]at hn
  | ib cs=>simp [hg]at hn
theorem Hp.toC_ok (h:Hp w0 own0 pl0 g pl roots nx nx fix w){r:Nat}{p:Af}{n:Nat×List (List D)}(hn:Dr roots r p=some n){i c:Nat}{e:List D}{d:D}
  (he:n.2[i]? = some e) (hd:e[c]? = some d) {v:Value} (hv:DV (pl r (p++[(i,c)])) d v):CR pl nx (toC r p i c d) v:=by
 cases d with
 | lf x=>exact hv
 | hole=>exact hv
 | sl sz es =>
  have hs:=Zyo hn i c;simp only[he,Kra,hd]at hs;obtain⟨hr,hc⟩:=h.node hs;refine⟨hr,hv.1,hc.nil,by simpa using hc.le,_, ?_,fun _=>rfl⟩;rw[hv.2];simp [hdr,Pl.base]
theorem Hp.cell (h:Hp w0 own0 pl0 g pl roots nx nx fix w){r:Nat}{p:Af}{n:Nat×List (List D)}(hn:Dr roots r p=some n){i c:Nat}{e:List D}{d:D}
  (he:n.2[i]? = some e) (hd:e[c]? = some d):∃v,w.cell? ⟨(pl r p).b,(pl r p).off+(i*(pl r p).sz+c),none⟩=some v/\CR pl nx (toC r p i c d) v:=by
 obtain⟨_,hc⟩:=h.node hn;obtain⟨v,hv,hk⟩:=hc.cells i e c d he hd;exact⟨v,by rw[hc.szp];exact hv,h.toC_ok hn he hd hk⟩
theorem Hp.cellsFrom (h:Hp w0 own0 pl0 g pl roots nx nx fix w){r:Nat}{p:Af}{n:Nat×List (List D)}(hn:Dr roots r p=some n){i:Nat}{e:List D}
  (he:n.2[i]? = some e):∀(ds:List D) (c:Nat),(∀k d,ds[k]? = some d->e[c+k]? = some d) ->
  ∃vs:List Value,vs.length=ds.length/\(∀j v,vs[j]? = some v->w.cell? ⟨(pl r p).b,(pl r p).off+(i*(pl r p).sz+(c+j)),none⟩=some v)/\Ab (CR pl nx) (Co r p i c ds) vs
 | [],c,_=>⟨[],rfl,by simp,trivial⟩
 | d::ds,c,hk=>by
  obtain⟨v,hv,hc⟩:=h.cell hn he (hk 0 d rfl);obtain⟨vs,hl,hvs,ha⟩:=Hp.cellsFrom h hn he ds (c+1) (fun k x hx=>by rw[show c+1+k=c+(k+1) by omega];exact hk (k+1) x (by simpa using hx));refine⟨v::vs,by simp [hl], ?_,hc,ha⟩;intro j u hj;cases j with
  | zero=>simp at hj;subst hj;exact hv
  | succ j=>have:=hvs j u (by simpa using hj);rwa [show c+1+j=c+(j+1) by omega]at this
theorem Hp.box (h:Hp w0 own0 pl0 g pl roots nx nx fix w){r:Nat}{cs:List C}(hn:Zf roots r=some cs){c:Nat}{x:C}(hx:cs[c]? = some x) :
  ∃v,w.cell? ⟨(pl r []).b,(pl r []).off+c,none⟩=some v/\CR pl nx x v:=by
 unfold Zf at hn;split at hn
 ·rename_i cs' hg;simp only[Ka]at hn;subst hn;obtain⟨v,a,b,_⟩:=(h.roots r _ hg).2 c x hx;exact⟨v,a,b⟩
 ·rename_i cs' hg;simp only[Ka]at hn;subst hn;obtain⟨v,a,b,_⟩:=(h.roots r _ hg).2 c x hx;exact⟨v,a,b⟩
 simp at hn
theorem Hp.boxFrom (h:Hp w0 own0 pl0 g pl roots nx nx fix w){r:Nat}{cs:List C}(hn:Zf roots r=some cs):∀(xs:List C) (c:Nat),(∀k x,xs[k]? = some x->cs[c+k]? = some x) ->
  ∃vs:List Value,vs.length=xs.length/\(∀j v,vs[j]? = some v->w.cell? ⟨(pl r []).b,(pl r []).off+(c+j),none⟩=some v)/\Ab (CR pl nx) xs vs
 | [],c,_=>⟨[],rfl,by simp,trivial⟩
 | x::xs,c,hk=>by
  obtain⟨v,hv,hc⟩:=h.box hn (hk 0 x rfl);obtain⟨vs,hl,hvs,ha⟩:=Hp.boxFrom h hn xs (c+1) (fun k x hx=>by rw[show c+1+k=c+(k+1) by omega];exact hk (k+1) x (by simpa using hx));refine⟨v::vs,by simp [hl], ?_,hc,ha⟩;intro j u hj;cases j with
  | zero=>simp at hj;subst hj;exact hv
  | succ j=>have:=hvs j u (by simpa using hj);rwa [show c+1+j=c+(j+1) by omega]at this
end
theorem Mz {α:Type}{l xs:List α}{c n:Nat}(h:xs=(l.drop c).take n):∀(k:Nat) (x:α),xs[k]? = some x->l[c+k]? = some x:=by
 intro k x hx;subst h;rw[Kwa]at hx;split at hx
 ·simpa using hx
 simp at hx
def Sh:List (List D)->Option (List UInt8)
 | []=>some []
 | [.lf (.int .u8 z)]::l=>(Sh l).map (UInt8.ofNat z.toNat::·)
 | _=>none
def Qb:V->Option (List C)
 | .a (.c x)=>some [x]
 | .a (.ag cs)=>some cs
 | _=>none
def Hh (S:St):List C->List (Nat×Nat×Opd)->Option (List C)
 | cs,[]=>some cs
 | cs,(off,sz,x)::rest =>
  match Qb (S.opd x) with
  | some ys=>if ys.length=sz/\off+sz<=cs.length then Hh S (cs.take off++(ys++cs.drop (off+sz))) rest else none
  | none=>none
def Lv:List V->Option (List A)
 | []=>some []
 | .a x::l=>(Lv l).map (x::·)
 | _=>none
def ev (S:St) (K:V->Prop):I->Prop
 | .mv x=>K (S.opd x)
 | .pick c a b=>match S.opd c with
  | .a (.c (.lf (.bool t)))=>(t=true->K (S.opd a))/\(t=false->K (S.opd b))
  | _=>False
 | .load none x=>match S.opd x with
  | .a (.c (.pe r p i c))=>∃d,((S.node r p).bind fun n=>(n.2[i]?).bind (·[c]?))=some d/\K (.a (.c (toC r p i c d)))
  | .a (.c (.pb r c))=>∃x,((S.bcells r).bind (·[c]?))=some x/\K (.a (.c x))
  | .a (.c (.lf (.pointer (some ⟨b,o,none⟩))))=>∃v,F0 b o=some v/\K (.a (.c (.lf v)))
  | _=>False
 | .load (some m) x=>match S.opd x with
  | .a (.c (.pe r p i c))=>∃e,((S.node r p).bind fun n=>n.2[i]?)=some e/\c+m<=e.length/\K (.a (.ag (Co r p i c ((e.drop c).take m))))
  | .a (.c (.pb r c))=>∃cs,S.bcells r=some cs/\c+m<=cs.length/\K (.a (.ag ((cs.drop c).take m)))
  | .a (.c (.lf (.pointer (some ⟨b,o,none⟩))))=>∃vs,S8 b o m=some vs/\K (.a (.ag (vs.map .lf)))
  | _=>False
 | .nilc x=>match S.opd x with
  | .a (.c (.pe r p i c))=>K (.a (.c (.pe r p i c)))
  | .a (.c (.pb r c))=>K (.a (.c (.pb r c)))
  | _=>False
 | .bin op x y=>match S.opd x,S.opd y with
  | .a (.c (.lf u)),.a (.c (.lf v))=>∃r,O2 op u v=some r/\K (.a (.c (.lf r)))
  | _,_=>False
 | .beq neg x y=>match S.opd x,S.opd y with
  | .a (.c (.lf (.bool u))),.a (.c (.lf (.bool v)))=>K (.a (.c (.lf (.bool (if neg then u != v else u==v)))))
  | _,_=>False
 | .aeq neg n x y=>match S.opd x,S.opd y with
  | .a (.ag cs),.a (.ag ds)=>∃us vs:List Int,cs=us.map (fun z=>C.lf (.int .i64 z))/\ds=vs.map (fun z=>C.lf (.int .i64 z))/\us.length=n/\vs.length=n/\K (.a (.c (.lf (.bool (if neg then !(us==vs) else us==vs)))))
  | _,_=>False
 | .un op x=>match S.opd x with
  | .a (.c (.lf u))=>∃r,Znz op u=some r/\K (.a (.c (.lf r)))
  | _=>False
 | .conv k x=>match S.opd x with
  | .a (.c (.lf (.int _ z)))=>K (.a (.c (.lf (.int k (k.wrap z)))))
  | _=>False
 | .b2s x=>match S.opd x with
  | .a (.c (.rf r p 1 lo n))=>∃l,((S.node r p).bind fun m=>if lo+n<=m.2.length then Sh ((m.2.drop lo).take n) else none)=some l/\K (.a (.c (.lf (.string ⟨l.toArray⟩))))
  | .a (.c (.nl _))=>K (.a (.c (.lf (.string .empty))))
  | _=>False
 | .slc z0 x lo hi=>match S.opd x,lo.map S.opd,hi.map S.opd with
  | .a (.c (.rf r p sz l0 n)),some (.a (.c (.lf (.int _ l)))),some (.a (.c (.lf (.int _ h))))=>z0=sz/\(0<=l/\l<=h/\h<=n)/\K (.a (.c (.rf r p sz (l0+l.toNat) (h.toNat-l.toNat))))
  | .a (.c (.rf r p sz l0 n)),some (.a (.c (.lf (.int _ l)))),none=>z0=sz/\(0<=l/\l<=n)/\K (.a (.c (.rf r p sz (l0+l.toNat) (n-l.toNat))))
  | .a (.c (.rf r p sz l0 n)),none,some (.a (.c (.lf (.int _ h))))=>z0=sz/\(0<=h/\h<=n)/\K (.a (.c (.rf r p sz l0 h.toNat)))
  | .a (.c (.rf r p sz l0 n)),none,none=>K (.a (.c (.rf r p sz l0 n)))
  | _,_,_=>False
 | .ssl x lo hi=>match S.opd x,lo.map S.opd,hi.map S.opd with
  | .a (.c (.lf (.string s))),some (.a (.c (.lf (.int _ l)))),some (.a (.c (.lf (.int _ h))))=>(0<=l/\l<=h/\h<=s.size)/\K (.a (.c (.lf (.string (s.extract l.toNat h.toNat)))))
  | .a (.c (.lf (.string s))),some (.a (.c (.lf (.int _ l)))),none=>(0<=l/\l<=s.size)/\K (.a (.c (.lf (.string (s.extract l.toNat s.size)))))
  | .a (.c (.lf (.string s))),none,some (.a (.c (.lf (.int _ h))))=>(0<=h/\h<=s.size)/\K (.a (.c (.lf (.string (s.extract 0 h.toNat)))))
  | _,_,_=>False
 | .fld off none x=>match S.opd x with
  | .a (.ag cs)=>∃y,cs[off]? = some y/\K (.a (.c y))
  | _=>False
 | .fld off (some m) x=>match S.opd x with
  | .a (.ag cs)=>off+m<=cs.length/\K (.a (.ag ((cs.drop off).take m)))
  | _=>False
 | .fad off x=>match S.opd x with
  | .a (.c (.pe r p i c))=>K (.a (.c (.pe r p i (c+off))))
  | .a (.c (.pb r c))=>K (.a (.c (.pb r (c+off))))
  | .a (.c (.lf (.pointer (some ⟨b,o,none⟩))))=>K (.a (.c (.lf (.pointer (some ⟨b,o+off,none⟩)))))
  | _=>False
 | .iad sz x i=>match S.opd x,S.opd i with
  | .a (.c (.rf r p sz' lo n)),.a (.c (.lf (.int _ z)))=>sz'=sz/\(0<=z/\z<n)/\K (.a (.c (.pe r p (lo+z.toNat) 0)))
  | _,_=>False
 | .iaa len sz x i=>match S.opd x,S.opd i with
  | .a (.c (.pb r c)),.a (.c (.lf (.int _ z)))=>(0<=z/\z<len)/\K (.a (.c (.pb r (c+z.toNat*sz))))
  | .a (.c (.lf (.pointer (some ⟨b,o,none⟩)))),.a (.c (.lf (.int _ z)))=>(0<=z/\z<len)/\K (.a (.c (.lf (.pointer (some ⟨b,o+z.toNat*sz,none⟩)))))
  | _,_=>False
 | .idx x i=>match S.opd x,S.opd i with
  | .a (.c (.lf (.string s))),.a (.c (.lf (.int _ z)))=>0<=z/\∃b:UInt8,s[z.toNat]? = some b/\K (.a (.c (.lf (.int .u8 b.toNat))))
  | _,_=>False
 | .ixa len none sz x i=>match S.opd x,S.opd i with
  | .a (.ag cs),.a (.c (.lf (.int _ z)))=>(0<=z/\z<len)/\∃y,cs[z.toNat*sz]? = some y/\K (.a (.c y))
  | _,_=>False
 | .ext i x=>match S.opd x with
  | .tp xs=>∃y,xs[i]? = some y/\K (.a y)
  | _=>False
 | .len x=>match S.opd x with
  | .a (.c (.rf _ _ _ _ n))=>K (.a (.c (.lf (.int .i64 n))))
  | .a (.c (.nl _))=>K (.a (.c (.lf (.int .i64 0))))
  | _=>False
 | .sid x=>match S.opd x with
  | .a (.c (.lf (.string s)))=>K (.a (.c (.lf (.string s))))
  | _=>False
 | .sln x=>match S.opd x with
  | .a (.c (.lf (.string s)))=>K (.a (.c (.lf (.int .i64 s.size))))
  | _=>False
 | .build zero parts=>∃cs,Hh S zero parts=some cs/\K (.a (.ag cs))
 | .mkf f caps=>∃as,Lv (caps.map S.opd)=some as/\K (.fn f as)
 | _=>False
end Go.Vs
namespace Go.Vs
variable [Glb]
variable {P:Program} {N:Nat} {w0:World} {own0:Nat->Nat->Prop} {pl0:Pls} {g:Lab} {pl:Pls} {S:St} {a:Act} {w:World} {K:V->Prop}
def Gp (P:Program) (pl:Pls) (nx:Nat) (K:V->Prop) (s:Sem Value) (w:World):Prop:=∃v x,s.run P w=.ok v w/\VR pl nx x v/\K x
theorem Dc {nx:Nat}{s:Sem Value}{x:C}{v:Value}(hK:K (.a (.c x))) (hr:s.run P w=.ok v w) (hc:CR pl nx x v):Gp P pl nx K s w:=⟨v,.a (.c x),hr,hc,hK⟩
theorem Vq {nx:Nat}{s:Sem Value}{cs:List C}{vs:List Value}(hK:K (.a (.ag cs))) (hr:s.run P w=.ok (.agg vs.toArray) w) (hc:Ab (CR pl nx) cs vs):Gp P pl nx K s w:=⟨_,.a (.ag cs),hr,⟨vs,rfl,hc⟩,hK⟩
theorem Be {nx:Nat}{x:C}{v:Value}(h:VR pl nx (.a (.c x)) v):CR pl nx x v:=h
theorem Zv3 {b o:Nat}{v:Value}(h:F0 b o=some v):v.oneCell'=true:=by
 unfold F0 at h;split at h
 ·split at h
  ·simp only[Ka]at h;subst h;rfl
  simp at h
 simp at h
theorem Zv4 {pl:Pls}{nx:Nat}{w0:World}{own0:Nat->Nat->Prop}{w:World}(hf:Fr w0 own0 w):∀(b o m:Nat){vs:List Value},S8 b o m=some vs->vs.length=m/\(∀k v,vs[k]? = some v->w.cell? ⟨b,o+k,none⟩=some v)/\Ab (CR pl nx) (vs.map .lf) vs
 | b,o,0,vs,h=>by
  simp only[S8,Ka]at h;subst h;exact⟨rfl,by simp,trivial⟩
 | b,o,m+1,vs,h=>by
  simp only[S8]at h;split at h
  ·rename_i v vs' h1 h2;simp only[Ka]at h;subst h;obtain⟨a,c,d⟩:=Zv4 hf b (o+1) m h2;refine⟨by simp [a], ?_,⟨rfl,Zv3 h1⟩,d⟩;intro k u hk;cases k with
   | zero=>simp only[Kv,Ka]at hk;subst hk;exact hf.glb h1
   | succ k=>rw[show o+(k+1)=o+1+k by omega];exact c k u (by simpa using hk)
  simp at h
theorem Ygl (hR:Rel N w0 own0 pl0 g pl S a w){t:TypeId}{x:Operand}{ty:TypeId}{i:I}(ht:trR P ty (.load t x)=some i) (h:ev S K i) :
  Gp P pl S.next K (Instr.loadAt t (a.eval x)) w:=by
 simp only[trR,Ts,Kl,Kg,Ka]at ht;obtain⟨sz,⟨d,hd,j,hj,rfl⟩,y,hy,rfl⟩:=ht;have ho:=Bk hR hy;by_cases hag:N6 d=true
 ·simp only[hag,if_true]at h;have hA:∀A:Addr,Instr.loadAt t (.pointer (some A))=(do pure (.agg (<- loadCells A (<- sizeOf t))):Sem Value)\/True:=fun _=>.inr trivial;have hrun:∀(A:Addr) (vs:List Value),vs.length=j.size->(∀k v,vs[k]? = some v->w.cell? (A.add k)=some v) ->
    (Instr.loadAt t (.pointer (some A))).run P w=.ok (.agg vs.toArray) w:=by
   intro A vs hl hc;have h1:=run_loadCells_list (P:=P) w A vs hc;have:(isAgg t).run P w=.ok true w:=by
    simp only[isAgg,Sem.run_bind,run_underlying hd,Result.andThen];cases d<;>simp_all [N6]
   rw[hl]at h1;simp [Instr.loadAt,Instr.sureAddr,loadVar,this,sizeOf,typeInfo,hj,h1]
  simp only[ev]at h;split at h
  ·rename_i r p i c he;rw[he]at ho;obtain⟨hr,hnil,hv⟩:=Be ho;obtain⟨e,hE,hle,hK⟩:=h;rw[Ra]at hE;simp only[Kg]at hE;obtain⟨n,hn,he⟩:=hE;obtain⟨vs,hl,hvs,hall⟩:=hR.hp.cellsFrom hn he ((e.drop c).take j.size) c (Mz rfl);refine Vq hK ?_ hall;rw[hv];refine hrun _ vs (by rw[hl];simp;omega) fun k v hk=>?_;have:=hvs k v hk;rw[Addr.add_lit];rwa [Kgb,Kgb]
  ·rename_i r c he;rw[he]at ho;obtain⟨hr,hv⟩:=Be ho;obtain⟨cs,hcs,hle,hK⟩:=h;obtain⟨vs,hl,hvs,hall⟩:=hR.hp.boxFrom (r:=r) (cs:=cs) hcs ((cs.drop c).take j.size) c (Mz rfl);refine Vq hK ?_ hall;rw[hv];refine hrun _ vs (by rw[hl];simp;omega) fun k v hk=>?_;have:=hvs k v hk;rw[Addr.add_lit];rwa [Kgb]
  ·rename_i b o he;rw[he]at ho;obtain⟨hv,_⟩:=Be ho;obtain⟨vs,hvs,hK⟩:=h;obtain⟨g1,g2,g3⟩:=Zv4 (pl:=pl) (nx:=S.next) hR.hp.fr _ _ _ hvs;refine Vq hK ?_ g3;rw[hv];exact hrun _ vs g1 fun k v hk=>by rw[Addr.add_lit];exact g2 k v hk
  exact h.elim
 simp only[hag]at h;have hrun:∀(A:Addr) (v:Value),w.cell? A=some v->(Instr.loadAt t (.pointer (some A))).run P w=.ok v w:=by
  intro A v hc;have:(isAgg t).run P w=.ok false w:=by
   simp only[isAgg,Sem.run_bind,run_underlying hd,Result.andThen];cases d<;>simp_all [N6]
  simp [Instr.loadAt,Instr.sureAddr,loadVar,this,hc]
 simp only[Kka,if_false,ev]at h;split at h
 ·rename_i r p i c he;rw[he]at ho;obtain⟨hr,hnil,hv⟩:=Be ho;obtain⟨d,hE,hK⟩:=h;rw[Ra]at hE;simp only[Kg]at hE;obtain⟨n,hn,e,he,hd'⟩:=hE;obtain⟨v,hcell,hcr⟩:=hR.hp.cell hn he hd';exact Dc hK (by rw[hv];exact hrun _ _ hcell) hcr
 ·rename_i r c he;rw[he]at ho;obtain⟨hr,hv⟩:=Be ho;obtain⟨y,hE,hK⟩:=h;simp only[Kg]at hE;obtain⟨cs,hcs,hy⟩:=hE;obtain⟨v,hcell,hcr⟩:=hR.hp.box (r:=r) hcs hy;exact Dc hK (by rw[hv];exact hrun _ _ hcell) hcr
 ·rename_i b o he;rw[he]at ho;obtain⟨hv,_⟩:=Be ho;obtain⟨v,hg,hK⟩:=h;exact Dc hK (by rw[hv];exact hrun _ _ (hR.hp.fr.glb hg)) ⟨rfl,Zv3 hg⟩
 exact h.elim
theorem Yam:∀(fs:List Field) (i:Nat) (us vs:List Int) (d:Nat),We P fs i=true->us.length=i+fs.length->vs.length=i+fs.length->(Op.eqFields (d+1) (us.map (Value.int .i64)).toArray (vs.map (Value.int .i64)).toArray fs).run P w=.ok (us.drop i==vs.drop i) w
 | [],i,us,vs,d,_,hu,hv=>by
  rw[Ktd (by simpa using Nat.le_of_eq hu),Ktd (by simpa using Nat.le_of_eq hv)];rfl
 | f::fs,i,us,vs,d,h,hu,hv=>by
  simp only[We,Kd,decide_eq_true_eq]at h;obtain⟨⟨⟨h1,h2⟩,h3⟩,h4⟩:=h;have hty:P.underlying f.type=some (.int .i64):=by
   split at h3
   ·assumption
   cases h3
  have hpk:P.plainKey f.type=true:=by unfold Program.plainKey;rw[hty]
  simp only[Kf]at hu hv;have hiu:i<us.length:=by omega
  have hiv:i<vs.length:=by omega
  have e1:((us.map (Value.int .i64)).toArray)[f.offset]? = some (.int .i64 us[i]):=by rw[h2];simp [hiu]
  have e2:((vs.map (Value.int .i64)).toArray)[f.offset]? = some (.int .i64 vs[i]):=by rw[h2];simp [hiv]
  have ih:=Yam fs (i+1) us vs d h4 (by omega) (by omega);rw[Kwb hiu,Kwb hiv];simp only[Op.eqFields,if_pos h1,Sem.run_bind,run_part_plain w hpk e1,run_part_plain w hpk e2,Result.andThen_ok,run_equalIn_int w d f.type .i64 .i64 _ _ hty,List.cons_beq_cons];cases hb:(us[i]==vs[i]) with
  | true=>simp only[Ksc,Kka,if_false,Kec];exact ih
  | false=>simp only[Kud,if_true,Knd,Sem.run_pure]
theorem Zai {pl:Pls}{nx:Nat}:∀{us:List Int}{vs:List Value},Ab (CR pl nx) (us.map (fun z=>C.lf (.int .i64 z))) vs->vs=us.map (Value.int .i64)
 | [],[],_=>rfl
 | [],_::_,h=>h.elim
 | _::_,[],h=>h.elim
 | z::us,v::vs,h=>by
  have:=h.1.1;rw[Ke,<-Zai h.2,this]
theorem Yaj {t:TypeId}{fs:Array Field}{xs ys:Operand}{us vs:List Int}(hu:P.underlying t=some (.struct fs)) (hk:(We P fs.toList 0&&(!P.eqGuardType P.depth t&&!P.stoodInHeld t))=true) (h1:us.length=fs.size) (h2:vs.length=fs.size) :
  (do eqGuard .eql t xs ys (.agg (us.map (Value.int .i64)).toArray) (.agg (vs.map (Value.int .i64)).toArray);binOp .eql t (.agg (us.map (Value.int .i64)).toArray) (.agg (vs.map (Value.int .i64)).toArray):Sem Value).run P w=.ok (.bool (us==vs)) w /\
  (do eqGuard .neq t xs ys (.agg (us.map (Value.int .i64)).toArray) (.agg (vs.map (Value.int .i64)).toArray);binOp .neq t (.agg (us.map (Value.int .i64)).toArray) (.agg (vs.map (Value.int .i64)).toArray):Sem Value).run P w=.ok (.bool (!(us==vs))) w:=by
 simp only[Kd,Kzb]at hk;obtain⟨k1,k2,k3⟩:=hk;have hf:P.fieldsOf t=fs:=by unfold Program.fieldsOf;rw[hu]
 have he:(Op.equalIn 10000 t (.agg (us.map (Value.int .i64)).toArray) (.agg (vs.map (Value.int .i64)).toArray)).run P w=.ok (us==vs) w:=by
  rw[run_equalIn_struct w 9999 t _ _ (by rw[hf];exact hu) k3,hf];have:=Yam (P:=P) (w:=w) fs.toList 0 us vs 9998 k1 (by simpa using h1) (by simpa using h2);simpa using this
 constructor
 ·simp only[Sem.run_bind,run_eqGuard_agg w .eql t xs ys _ _ k2,Result.andThen_ok,run_eql_struct,he]
 simp only[Sem.run_bind,run_eqGuard_agg w .neq t xs ys _ _ k2,Result.andThen_ok,run_neq_struct,he]
theorem Ygc (hR : Rel N w0 own0 pl0 g pl S a w) {op : BinOp} {t t' : TypeId} {x y : Operand} {ty : TypeId} {i : I} (ht : trR P ty (.binOp op t x y t') = some i) (h : ev S K i) :
    Gp P pl S.next K (do eqGuard op t x y (a.eval x) (a.eval y); binOp op t (a.eval x) (a.eval y)) w := by
  simp only [trR] at ht;split at ht
  · rename_i hu
    simp only [Kl, Kg, Ka] at ht;obtain ⟨x', hx, y', hy, rfl⟩ := ht;have h1 := Bk hR hx;have h2 := Bk hR hy;simp only [ev] at h;split at h
    · rename_i u v he hf
      rw [he] at h1; rw [hf] at h2;obtain ⟨rfl', _⟩ := Be h1;obtain ⟨rfl'', _⟩ := Be h2;rw [rfl', rfl''];exact Dc h (by simp [eqGuard, binOp, run_equal_bool w t u v hu]) ⟨rfl, rfl⟩
    exact h.elim
  · rename_i hu
    simp only [Kl, Kg, Ka] at ht;obtain ⟨x', hx, y', hy, rfl⟩ := ht;have h1 := Bk hR hx;have h2 := Bk hR hy;simp only [ev] at h;split at h
    · rename_i u v he hf
      rw [he] at h1; rw [hf] at h2;obtain ⟨rfl', _⟩ := Be h1;obtain ⟨rfl'', _⟩ := Be h2;rw [rfl', rfl''];exact Dc h (by simp [eqGuard, binOp, run_equal_bool w t u v hu, bne]) ⟨rfl, rfl⟩
    exact h.elim
  · rename_i fs hu
    split at ht
    · rename_i hk
      simp only [Kl, Kg, Ka] at ht;obtain ⟨x', hx, y', hy, rfl⟩ := ht;have h1 := Bk hR hx;have h2 := Bk hR hy;simp only [ev] at h;split at h
      · rename_i cs ds he hf
        rw [he] at h1; rw [hf] at h2;obtain ⟨us, vs, rfl, rfl, l1, l2, hK⟩ := h;obtain ⟨zs, e1, q1⟩ := h1;obtain ⟨ws, e2, q2⟩ := h2;rw [Zai q1] at e1;rw [Zai q2] at e2;rw [e1, e2];exact Dc hK (Yaj hu hk l1 l2).1 ⟨rfl, rfl⟩
      exact h.elim
    cases ht
  · rename_i fs hu
    split at ht
    · rename_i hk
      simp only [Kl, Kg, Ka] at ht;obtain ⟨x', hx, y', hy, rfl⟩ := ht;have h1 := Bk hR hx;have h2 := Bk hR hy;simp only [ev] at h;split at h
      · rename_i cs ds he hf
        rw [he] at h1; rw [hf] at h2;obtain ⟨us, vs, rfl, rfl, l1, l2, hK⟩ := h;obtain ⟨zs, e1, q1⟩ := h1;obtain ⟨ws, e2, q2⟩ := h2;rw [Zai q1] at e1;rw [Zai q2] at e2;rw [e1, e2];exact Dc hK (Yaj hu hk l1 l2).2 ⟨rfl, rfl⟩
      exact h.elim
    cases ht
  simp only [Kl, Kg, Ka] at ht;obtain ⟨x', hx, y', hy, rfl⟩ := ht;have h1 := Bk hR hx;have h2 := Bk hR hy;simp only [ev] at h;split at h
  · rename_i u v he hf
    rw [he] at h1; rw [hf] at h2;obtain ⟨rfl', _⟩ := Be h1;obtain ⟨rfl'', _⟩ := Be h2;obtain ⟨r, hr, hK⟩ := h;rw [rfl', rfl''];refine Dc hK (Yq6 hr w) ⟨rfl, ?_⟩;unfold O2 at hr;split at hr <;> first
      | (simp at hr; done)
      | (simp only [Ka] at hr; subst hr; rfl)
      | (split at hr
         · simp only [Ka] at hr; subst hr; rfl
         · simp at hr)
  exact h.elim
theorem Ygp (hR:Rel N w0 own0 pl0 g pl S a w){op:UnOp}{t:TypeId}{x:Operand}{ty:TypeId}{i:I}(ht:trR P ty (.unOp op t x)=some i) (h:ev S K i) :
  Gp P pl S.next K (Op.unary op (a.eval x)) w:=by
 simp only[trR,Ks]at ht;obtain⟨x',hx,rfl⟩:=ht;have h1:=Bk hR hx;simp only[ev]at h;split at h
 ·rename_i u he;rw[he]at h1;obtain⟨e1,_⟩:=Be h1;obtain⟨r,hr,hK⟩:=h;rw[e1];unfold Znz at hr;split at hr
  ·simp only[Ka]at hr;subst hr;exact Dc hK (by simp [Op.unary]) ⟨rfl,rfl⟩
  ·simp only[Ka]at hr;subst hr;exact Dc hK (v:=.int _ _) (by simp only[Op.unary,Op.intArith];rfl) ⟨rfl,rfl⟩
  simp at hr
 exact h.elim
theorem Zty (hR:Rel N w0 own0 pl0 g pl S a w){x:Operand}{y:Opd}{tx:TypeId}(hx:trO P tx x=some y) (h:ev S K (.mv y)) :
  Gp P pl S.next K (pure (a.eval x)) w:=⟨_,_,rfl,Bk hR hx,h⟩
theorem Ygn (hR:Rel N w0 own0 pl0 g pl S a w){c x y:Operand}{ty:TypeId}{i:I}(ht:trR P ty (.pick c x y)=some i) (h:ev S K i) :
  Gp P pl S.next K (do pure (if <- asBool (a.eval c) then a.eval x else a.eval y)) w:=by
 simp only[trR,Kl,Kg,Ka]at ht;obtain⟨c',hc,x',hx,y',hy,rfl⟩:=ht;have h0:=Bk hR hc;simp only[ev]at h;split at h
 ·rename_i t he;rw[he]at h0;obtain⟨e1,_⟩:=Be h0;rw[e1];cases t with
  | true=>exact⟨_,_,by simp [asBool],Bk hR hx,h.1 rfl⟩
  | false=>exact⟨_,_,by simp [asBool],Bk hR hy,h.2 rfl⟩
 exact h.elim
theorem Ygh (hR:Rel N w0 own0 pl0 g pl S a w){t:TypeId}{x:Operand}{f:Nat}{ty:TypeId}{i:I}(ht:trR P ty (.field t x f)=some i) (h:ev S K i) :
  Gp P pl S.next K (Instr.field t (a.eval x) f) w:=by
 simp only[trR]at ht;split at ht
 ·rename_i fs hfs;simp only[Ts,Kl,Kg,Ka]at ht;obtain⟨fd,hfd,sz,⟨d,hd,j,hj,rfl⟩,y,hy,rfl⟩:=ht;have ho:=Bk hR hy;by_cases hag:N6 d=true
  ·simp only[hag,if_true,ev]at h;split at h
   ·rename_i cs he;rw[he]at ho;obtain⟨vs,hv,hall⟩:=ho;obtain⟨hle,hK⟩:=h;have hisa:(isAgg fd.type).run P w=.ok true w:=by
     simp only[isAgg,Sem.run_bind,run_underlying hd,Result.andThen];cases d<;>simp_all [N6]
    have hl:=hall.length;refine Vq (vs:=(vs.drop fd.offset).take j.size) hK ?_ ?_
    ·rw[hv];simp [Instr.field,run_underlying hfs,hfd,asAgg,part,hisa,sizeOf,typeInfo,hj]
    refine Ab.of_get (by simp [hl]) fun k x u hx hu=>?_;have hx':=Mz rfl k x hx;have hu':=Mz rfl k u hu;obtain⟨u',e1,e2⟩:=hall.get _ _ hx';rw[hu']at e1;simp only[Ka]at e1;subst e1;exact e2
   exact h.elim
  simp only[hag,Kka,if_false,ev]at h;split at h
  ·rename_i cs he;rw[he]at ho;obtain⟨vs,hv,hall⟩:=ho;obtain⟨z,hz,hK⟩:=h;have hisa:(isAgg fd.type).run P w=.ok false w:=by
    simp only[isAgg,Sem.run_bind,run_underlying hd,Result.andThen];cases d<;>simp_all [N6]
   obtain⟨u,hu,hc⟩:=hall.get _ _ hz;refine Dc hK (v:=u) ?_ hc;rw[hv];simp [Instr.field,run_underlying hfs,hfd,asAgg,part,hisa,hu]
  exact h.elim
 simp at ht
theorem Ygg (hR:Rel N w0 own0 pl0 g pl S a w){t:TypeId}{x:Operand}{f:Nat}{ty:TypeId}{i:I}(ht:trR P ty (.fieldAddr t x f)=some i) (h:ev S K i) :
  Gp P pl S.next K (Instr.fieldAt t (a.eval x) f) w:=by
 simp only[trR]at ht;split at ht
 ·rename_i fs hfs;simp only[Kl,Kg]at ht;obtain⟨fd,hfd,j,hj,ht⟩:=ht;split at ht
  ·simp at ht
  rename_i hz;simp only[Kg,Ka]at ht;obtain⟨y,hy,rfl⟩:=ht;have ho:=Bk hR hy;have hrun:∀A:Addr,(Instr.fieldAt t (.pointer (some A)) f).run P w=.ok (.pointer (some (A.add fd.offset))) w:=by
   intro A;simp [Instr.fieldAt,run_underlying hfs,hfd,Instr.sureAddr,fieldPlace,sizeOf,typeInfo,hj,hz]
  simp only[ev]at h;split at h
  ·rename_i r p i c he;rw[he]at ho;obtain⟨hr,hnil,hv⟩:=Be ho;exact Dc h (by rw[hv];exact hrun _) ⟨hr,hnil,by rw[Addr.add_lit];simp [Kgb]⟩
  ·rename_i r c he;rw[he]at ho;obtain⟨hr,hv⟩:=Be ho;exact Dc h (by rw[hv];exact hrun _) ⟨hr,by rw[Addr.add_lit];simp [Kgb]⟩
  ·rename_i b o he;rw[he]at ho;obtain⟨hv,_⟩:=Be ho;exact Dc h (by rw[hv];exact hrun _) ⟨by rw[Addr.add_lit],rfl⟩
  exact h.elim
 simp at ht
theorem Ygm (hR:Rel N w0 own0 pl0 g pl S a w){x:Operand}{y:Opd}{tx:TypeId}(hx:trO P tx x=some y) (h:ev S K (.nilc y)) :
  ∃A,a.eval x=.pointer (some A)/\∃z,VR pl S.next z (a.eval x)/\K z:=by
 have ho:=Bk hR hx;simp only[ev]at h;split at h
 ·rename_i r p i c he;rw[he]at ho;exact⟨_,(Be ho).2.2,_,ho,h⟩
 ·rename_i r c he;rw[he]at ho;exact⟨_,(Be ho).2,_,ho,h⟩
 exact h.elim
end Go.Vs
namespace Go.Vs
variable [Glb]
variable {P:Program} {N:Nat} {w0:World} {own0:Nat->Nat->Prop} {pl0:Pls} {g:Lab} {pl:Pls} {S:St} {a:Act} {w:World} {K:V->Prop}
theorem Ygi (hR:Rel N w0 own0 pl0 g pl S a w){t:TypeId}{x y:Operand}{ty:TypeId}{i:I}(ht:trR P ty (.indexAddr t x y)=some i) (h:ev S K i) :
  Gp P pl S.next K (Instr.indexAt t (a.eval x) (a.eval y)) w:=by
 simp only[trR]at ht;split at ht
 ·rename_i e hu;simp only[Kl,Kg,Ka]at ht;obtain⟨j,hj,x',hx,y',hy,rfl⟩:=ht;have h1:=Bk hR hx;have h2:=Bk hR hy;simp only[ev]at h;split at h
  ·rename_i r p sz' lo n k z he hf;rw[he]at h1;rw[hf]at h2;obtain⟨hr,hsz,hnil,hle,A,hv,hA⟩:=Be h1;obtain⟨hz,_⟩:=Be h2;obtain⟨rfl,⟨h0,hn⟩,hK⟩:=h;have hlt:lo<(pl r p).cap:=by omega
   have hnn:(pl r p).nil=false:=by
    cases hq:(pl r p).nil with
    | false=>rfl
    | true=>have:=hnil hq;omega
   have hA':=hA (.inl hlt);rw[hnn]at hA';simp only[Kka,if_false]at hA';refine Dc hK (v:=.pointer (some ⟨(pl r p).b,(pl r p).off+((lo+z.toNat)*(pl r p).sz+0),none⟩)) ?_ ⟨hr,hnn,rfl⟩;rw[hv,hz,hA'];simp only[Instr.indexAt,asIntOf,Sem.run_bind,Sem.run_pure,Result.andThen_ok,run_underlying hu];simp [h0,hn,sizeOf,typeInfo,hj,Addr.add_lit,hsz,Kbb,Kgb]
  exact h.elim
 ·rename_i n e hu;simp only[Kl,Kg,Ka]at ht;obtain⟨j,hj,x',hx,y',hy,rfl⟩:=ht;have h1:=Bk hR hx;have h2:=Bk hR hy;simp only[ev]at h;split at h
  ·rename_i r c k z he hf;rw[he]at h1;rw[hf]at h2;obtain⟨hr,hv⟩:=Be h1;obtain⟨hz,_⟩:=Be h2;obtain⟨⟨h0,hn⟩,hK⟩:=h;refine Dc hK (v:=.pointer (some ⟨(pl r []).b,(pl r []).off+(c+z.toNat*j.size),none⟩)) ?_ ⟨hr,rfl⟩;rw[hv,hz];simp only[Instr.indexAt,asIntOf,Sem.run_bind,Sem.run_pure,Result.andThen_ok,run_underlying hu];simp [h0,hn,sizeOf,typeInfo,hj,Addr.add_lit,Kgb,Instr.sureAddr]
  ·rename_i b o k z he hf;rw[he]at h1;rw[hf]at h2;obtain⟨hv,_⟩:=Be h1;obtain⟨hz,_⟩:=Be h2;obtain⟨⟨h0,hn⟩,hK⟩:=h;refine Dc hK (v:=.pointer (some ⟨b,o+z.toNat*j.size,none⟩)) ?_ ⟨rfl,rfl⟩;rw[hv,hz];simp only[Instr.indexAt,asIntOf,Sem.run_bind,Sem.run_pure,Result.andThen_ok,run_underlying hu];simp [h0,hn,sizeOf,typeInfo,hj,Addr.add_lit,Kgb,Instr.sureAddr]
  exact h.elim
 simp at ht
theorem Ygj (hR:Rel N w0 own0 pl0 g pl S a w){t:TypeId}{x y:Operand}{ty:TypeId}{i:I}(ht:trR P ty (.index t x y)=some i) (h:ev S K i) :
  Gp P pl S.next K (Instr.index t (a.eval x) (a.eval y)) w:=by
 simp only[trR]at ht;split at ht
 ·rename_i hu;simp only[Kl,Kg,Ka]at ht;obtain⟨x',hx,y',hy,rfl⟩:=ht;have h1:=Bk hR hx;have h2:=Bk hR hy;simp only[ev]at h;split at h
  ·rename_i s k z he hf;rw[he]at h1;rw[hf]at h2;obtain⟨hv,_⟩:=Be h1;obtain⟨hz,_⟩:=Be h2;obtain⟨h0,b,hb,hK⟩:=h;refine Dc hK (v:=.int .u8 b.toNat) ?_ ⟨rfl,rfl⟩;rw[hv,hz];simp only[Instr.index,asIntOf,Sem.run_bind,Sem.run_pure,Result.andThen_ok,run_underlying hu];rw[if_pos h0,hb];rfl
  exact h.elim
 ·rename_i n e hu;simp only[Ts,Kl,Kg,Ka]at ht;obtain⟨j,hj,sz,⟨d,hd,j',hj',rfl⟩,x',hx,y',hy,rfl⟩:=ht;rw[hj]at hj';simp only[Ka]at hj';subst hj';have h1:=Bk hR hx;have h2:=Bk hR hy;cases hag:N6 d with
  | true=>simp only[hag,if_true,ev]at h
  | false =>
   simp only[hag,Kka,if_false,ev]at h;split at h
   ·rename_i cs k z he hf;rw[he]at h1;rw[hf]at h2;obtain⟨vs,hv,hall⟩:=h1;obtain⟨hz,_⟩:=Be h2;obtain⟨⟨h0,hn⟩,u,hu',hK⟩:=h;obtain⟨v,hv',hc⟩:=hall.get _ _ hu';have hisa:(isAgg e).run P w=.ok false w:=by
     simp only[isAgg,Sem.run_bind,run_underlying hd,Result.andThen];cases d<;>simp_all [N6]
    refine Dc hK (v:=v) ?_ hc;rw[hv,hz];simp only[Instr.index,asIntOf,Sem.run_bind,Sem.run_pure,Result.andThen_ok,run_underlying hu];rw[if_pos ⟨h0,hn⟩];simp [part,hisa,sizeOf,typeInfo,hj,hv']
   exact h.elim
 simp at ht
theorem Ygf (hR:Rel N w0 own0 pl0 g pl S a w){x:Operand}{n:Nat}{ty:TypeId}{i:I}(ht:trR P ty (.extract x n)=some i) (h:ev S K i) :
  Gp P pl S.next K (Instr.extract (a.eval x) n) w:=by
 simp only[trR,Ks]at ht;obtain⟨x',hx,rfl⟩:=ht;have h1:=Bk hR hx;simp only[ev]at h;split at h
 ·rename_i xs he;rw[he]at h1;obtain⟨vs,hv,hall⟩:=h1;obtain⟨y,hy,hK⟩:=h;obtain⟨v,hv',hc⟩:=hall.get _ _ hy;refine⟨v,.a y, ?_,hc,hK⟩;rw[hv];simp [Instr.extract,hv']
 exact h.elim
theorem Ygk (hR:Rel N w0 own0 pl0 g pl S a w){args:Array Operand}{tys:Array TypeId}{ty' ty:TypeId}{i:I}(ht:trR P ty (.call { callee:=.builtin .len,args,argTypes:=tys })=some i) (h:ev S K i) :
  Gp P pl S.next K (Builtin.len_ tys ty' (args.map a.eval)) w:=by
 simp only[trR]at ht;split at ht
 ·rename_i x t hxs hts;have hargs:args=#[x]:=by apply Array.ext';simpa using hxs
  have htys:tys=#[t]:=by apply Array.ext';simpa using hts
  subst hargs;subst htys;split at ht
  ·rename_i e hu;simp only[Ks]at ht;obtain⟨x',hx,rfl⟩:=ht;have h1:=Bk hR hx;simp only[ev]at h;split at h
   ·rename_i r p sz lo n he;rw[he]at h1;obtain⟨hr,hsz,hnil,hle,A,hv,hA⟩:=Be h1;refine Dc h (v:=.int .i64 n) ?_ ⟨rfl,rfl⟩;simp [Builtin.len_,run_underlying hu,hv,goInt]
   ·rename_i he;rw[he]at h1;have hv:a.eval x=.slice none 0 0:=Be h1;refine Dc h (v:=.int .i64 0) ?_ ⟨rfl,rfl⟩;simp [Builtin.len_,run_underlying hu,hv,goInt]
   exact h.elim
  ·rename_i hu;simp only[Ks]at ht;obtain⟨x',hx,rfl⟩:=ht;have h1:=Bk hR hx;simp only[ev]at h;split at h
   ·rename_i s he;rw[he]at h1;have hv:=(Be h1).1;refine Dc h (v:=.int .i64 s.size) ?_ ⟨rfl,rfl⟩;simp [Builtin.len_,run_underlying hu,hv,goInt]
   exact h.elim
  simp at ht
 simp at ht
theorem Rh {k:IntKind}{z:Int}{y:Nat}{code:BoundsCode}(h0:0<=z) (h1:z<=y) (w:World):(Instr.sliceBound (.int k z) y code).run P w=.ok z.toNat w:=by
 simp [Instr.sliceBound,asIntOf,h0,h1]
theorem Zrl {L:Pl}{sz lo n l h:Nat}{A:Option Addr}(hsz:L.sz=sz) (hnil:L.nil=true->L.cap=0) (hle:lo+n<=L.cap)
  (hA:lo<L.cap\/lo=0->A=if L.nil then L.raw else some ⟨L.b,L.off+lo*L.sz,none⟩) (hl:l<=h) (hh:h<=n) :
  Win L sz (lo+l) (h-l) (sliced A l h (L.cap-lo) sz):=by
 refine⟨hsz,hnil,by omega,_,by unfold sliced;rw[Nat.sub_sub], ?_⟩;intro hc;by_cases hcl:L.cap-lo=l
 ·rw[if_pos hcl];have hl0:l=0:=by omega
  subst hl0;exact hA (by omega)
 rw[if_neg hcl,hA (by omega)];cases hq:L.nil with
 | true=>have:=hnil hq;omega
 | false=>simp [Addr.add_lit,hsz,Kbb,Kgb]
theorem Ygo (hR:Rel N w0 own0 pl0 g pl S a w){t:TypeId}{x:Operand}{lo hi mx:Option Operand}{ty:TypeId}{i:I}(ht:trR P ty (.slice t x lo hi mx)=some i) (h:ev S K i) :
  Gp P pl S.next K (Instr.sliceAt t (a.eval x) (lo.map a.eval) (hi.map a.eval) (mx.map a.eval)) w:=by
 cases mx with
 | some m=>simp [trR]at ht
 | none =>
 simp only[trR]at ht;split at ht
 ·rename_i e hu;simp only[Kl,Kg,Ka]at ht;obtain⟨j,hj,x',hx,lo',hlo,hi',hhi,rfl⟩:=ht;have h1:=Bk hR hx;have hrun:∀(A:Option Addr) (n cap:Nat) (l q m:Nat) (lo hi:Option Value),(Instr.sliceBounds true n cap lo hi none).run P w=.ok (l,q,m) w ->
    (Instr.sliceAt t (.slice A n cap) lo hi none).run P w=.ok (sliced A l q m j.size) w:=by
   intro A n cap l q m lo hi hb;simp only[Instr.sliceAt,Sem.run_bind,run_underlying hu,Result.andThen_ok,Instr.slice,hb];simp [sizeOf,typeInfo,hj,sliced]
  simp only[Kxb];cases lo with
  | none =>
   simp only[Hx,Ka]at hlo;subst hlo;cases hi with
   | none =>
    simp only[Hx,Ka]at hhi;subst hhi;simp only[ev,Kxb]at h ⊢;split at h
    ·simp_all
    ·simp_all
    ·simp_all
    ·rename_i r p sz l0 n he _ _;rw[he]at h1;obtain⟨hr,hsz,hnil,hle,A,hv,hA⟩:=Be h1;refine Dc h (v:=.slice A n ((pl r p).cap-l0)) ?_ ⟨hr,hsz,hnil,hle,A,rfl,hA⟩;rw[hv,hrun A n _ 0 n ((pl r p).cap-l0) none none (by simp [Instr.sliceBounds])];have:sliced A 0 n ((pl r p).cap-l0) j.size=.slice A n ((pl r p).cap-l0):=by
      unfold sliced;simp only[Nat.zero_mul,Kxc];cases A<;>simp [Addr.add]
     rw[this]
    exact h.elim
   | some hi =>
    simp only[Hx,Ks]at hhi;obtain⟨y,hy,rfl⟩:=hhi;have h2:=Bk hR hy;simp only[ev,Kxb,Kha]at h ⊢;split at h
    ·simp_all
    ·simp_all
    ·rename_i r p sz l0 n k z he _ hz;rw[he]at h1;simp only[Ka]at hz;rw[hz]at h2;obtain⟨hr,hsz,hnil,hle,A,hv,hA⟩:=Be h1;obtain⟨hzv,_⟩:=Be h2;obtain⟨hsz',⟨g0,g1⟩,hK⟩:=h;refine Dc hK (v:=sliced A 0 z.toNat ((pl r p).cap-l0) sz) ?_ ⟨hr,by have:=Zrl (l:=0) (h:=z.toNat) hsz hnil hle hA (by omega) (by omega);simpa using this⟩;rw[hv,hzv,hrun A n _ 0 z.toNat ((pl r p).cap-l0) none _ (by simp [Instr.sliceBounds,Rh g0 (show z<=(((pl r p).cap-l0:Nat):Int) by omega)]),hsz']
    ·simp_all
    exact h.elim
  | some lo =>
   simp only[Hx,Ks]at hlo;obtain⟨ylo,hylo,rfl⟩:=hlo;have h3:=Bk hR hylo;cases hi with
   | none =>
    simp only[Hx,Ka]at hhi;subst hhi;simp only[ev,Kxb,Kha]at h ⊢;split at h
    ·simp_all
    ·rename_i r p sz l0 n k z he hz _;rw[he]at h1;simp only[Ka]at hz;rw[hz]at h3;obtain⟨hr,hsz,hnil,hle,A,hv,hA⟩:=Be h1;obtain⟨hzv,_⟩:=Be h3;obtain⟨hsz',⟨g0,g1⟩,hK⟩:=h;refine Dc hK (v:=sliced A z.toNat n ((pl r p).cap-l0) sz) ?_ ⟨hr,Zrl hsz hnil hle hA (by omega) (by omega)⟩;rw[hv,hzv,hrun A n _ z.toNat n ((pl r p).cap-l0) _ none (by simp [Instr.sliceBounds,Rh g0 g1]),hsz']
    ·simp_all
    ·simp_all
    exact h.elim
   | some hi =>
    simp only[Hx,Ks]at hhi;obtain⟨y,hy,rfl⟩:=hhi;have h2:=Bk hR hy;simp only[ev,Kha]at h ⊢;split at h
    ·rename_i r p sz l0 n k z k' z' he hz hz2;rw[he]at h1;simp only[Ka]at hz hz2;rw[hz]at h3;rw[hz2]at h2;obtain⟨hr,hsz,hnil,hle,A,hv,hA⟩:=Be h1;obtain⟨hzv,_⟩:=Be h3;obtain⟨hzv2,_⟩:=Be h2;obtain⟨hsz',⟨g0,g1,g2⟩,hK⟩:=h;refine Dc hK (v:=sliced A z.toNat z'.toNat ((pl r p).cap-l0) sz) ?_ ⟨hr,Zrl hsz hnil hle hA (by omega) (by omega)⟩;rw[hv,hzv,hzv2,hrun A n _ z.toNat z'.toNat ((pl r p).cap-l0) _ _ (by simp [Instr.sliceBounds,Rh (show 0<=z' by omega) (show z'<=(((pl r p).cap-l0:Nat):Int) by omega),Rh g0 (show z<=((z'.toNat:Nat):Int) by omega)]),hsz']
    ·simp_all
    ·simp_all
    ·simp_all
    exact h.elim
 ·rename_i hu;simp only[Kl,Kg,Ka]at ht;obtain⟨x',hx,lo',hlo,hi',hhi,rfl⟩:=ht;have h1:=Bk hR hx;have hrun:∀(s:ByteArray) (l q m:Nat) (lo hi:Option Value),(Instr.sliceBounds false s.size s.size lo hi none).run P w=.ok (l,q,m) w ->
    (Instr.sliceAt t (.string s) lo hi none).run P w=.ok (.string (s.extract l q)) w:=by
   intro s l q m lo hi hb;simp only[Instr.sliceAt,Sem.run_bind,run_underlying hu,Result.andThen_ok,Instr.slice];simp [hb]
  simp only[Kxb];cases lo with
  | none =>
   simp only[Hx,Ka]at hlo;subst hlo;cases hi with
   | none =>
    simp only[Hx,Ka]at hhi;subst hhi;simp only[ev,Kxb]at h ⊢;split at h
    ·simp_all
    ·simp_all
    ·simp_all
    exact h.elim
   | some hi =>
    simp only[Hx,Ks]at hhi;obtain⟨y,hy,rfl⟩:=hhi;have h2:=Bk hR hy;simp only[ev,Kxb,Kha]at h ⊢;split at h
    ·simp_all
    ·simp_all
    ·rename_i s k z he _ hz;rw[he]at h1;simp only[Ka]at hz;rw[hz]at h2;obtain⟨hv,_⟩:=Be h1;obtain⟨hzv,_⟩:=Be h2;obtain⟨⟨g0,g1⟩,hK⟩:=h;refine Dc hK (v:=.string (s.extract 0 z.toNat)) ?_ ⟨rfl,rfl⟩;rw[hv,hzv,hrun s 0 z.toNat s.size none _ (by simp [Instr.sliceBounds,Rh g0 g1])]
    exact h.elim
  | some lo =>
   simp only[Hx,Ks]at hlo;obtain⟨ylo,hylo,rfl⟩:=hlo;have h3:=Bk hR hylo;cases hi with
   | none =>
    simp only[Hx,Ka]at hhi;subst hhi;simp only[ev,Kxb,Kha]at h ⊢;split at h
    ·simp_all
    ·rename_i s k z he hz _;rw[he]at h1;simp only[Ka]at hz;rw[hz]at h3;obtain⟨hv,_⟩:=Be h1;obtain⟨hzv,_⟩:=Be h3;obtain⟨⟨g0,g1⟩,hK⟩:=h;refine Dc hK (v:=.string (s.extract z.toNat s.size)) ?_ ⟨rfl,rfl⟩;rw[hv,hzv,hrun s z.toNat s.size s.size _ none (by simp [Instr.sliceBounds,Rh g0 g1])]
    ·simp_all
    exact h.elim
   | some hi =>
    simp only[Hx,Ks]at hhi;obtain⟨y,hy,rfl⟩:=hhi;have h2:=Bk hR hy;simp only[ev,Kha]at h ⊢;split at h
    ·rename_i s k z k' z' he hz hz2;rw[he]at h1;simp only[Ka]at hz hz2;rw[hz]at h3;rw[hz2]at h2;obtain⟨hv,_⟩:=Be h1;obtain⟨hzv,_⟩:=Be h3;obtain⟨hzv2,_⟩:=Be h2;obtain⟨⟨g0,g1,g2⟩,hK⟩:=h;refine Dc hK (v:=.string (s.extract z.toNat z'.toNat)) ?_ ⟨rfl,rfl⟩;rw[hv,hzv,hzv2,hrun s z.toNat z'.toNat s.size _ _ (by simp [Instr.sliceBounds,Rh (show 0<=z' by omega) g2,Rh g0 (show z<=((z'.toNat:Nat):Int) by omega)])]
    ·simp_all
    ·simp_all
    exact h.elim
 simp at ht
theorem Zvt:∀(l:List UInt8) (b:ByteArray),l.foldl (fun r n=>r.push n) b=⟨(b.data.toList++l).toArray⟩
 | [],b=>by simp
 | x::l,b=>by rw[Ktc,Zvt l];simp [ByteArray.push]
theorem Zsq {w:World}:∀{es:List (List D)}{l:List UInt8}{b off:Nat},Sh es=some l ->
  (∀i e c d,es[i]? = some e->e[c]? = some d->∃v,w.cell? ⟨b,off+(i+c),none⟩=some v/\(∀x,d=.lf x->v=x)) ->
  ∃ns:List Int,l=ns.map (fun n=>UInt8.ofNat n.toNat)/\ns.length=es.length/\∀j v,(ns.map (Value.int .u8))[j]? = some v->w.cell? ⟨b,off+j,none⟩=some v
 | [],l,b,off,h,_=>by simp only[Sh,Ka]at h;subst h;exact⟨[],rfl,rfl,by simp⟩
 | e::es,l,b,off,h,hc=>by
  unfold Sh at h;split at h
  ·rename_i heq;cases heq
  ·rename_i z es' heq;cases heq;simp only[Ks]at h;obtain⟨l',hl',rfl⟩:=h;obtain⟨ns,hl,hlen,hn⟩:=Zsq (b:=b) (off:=off+1) hl' (fun i e c d he hd=>by
    have:=hc (i+1) e c d (by simpa using he) hd
    rwa [show off+1+(i+c)=off+(i+1+c) by omega])
   refine⟨z::ns,by simp [hl],by simp [hlen], ?_⟩;intro j v hj;cases j with
   | zero =>
    simp at hj;subst hj;obtain⟨u,hu,hx⟩:=hc 0 _ 0 (.lf (.int .u8 z)) rfl rfl;rw[hx _ rfl]at hu;exact hu
   | succ j =>
    have:=hn j v (by simpa using hj)
    rwa [show off+1+j=off+(j+1) by omega]at this
  simp at h
theorem Yge (hR:Rel N w0 own0 pl0 g pl S a w){s d:TypeId}{x:Operand}{ty:TypeId}{i:I}(ht:trR P ty (.convert s d x)=some i) (h:ev S K i) :
  Gp P pl S.next K (convert s d (a.eval x)) w:=by
 simp only[trR,Kl,Kg]at ht;obtain⟨x',hx,ht⟩:=ht;have h1:=Bk hR hx;split at ht
 ·rename_i k' k hs hd;simp only[Ka]at ht;subst ht;simp only[ev]at h;split at h
  ·rename_i kk z he;rw[he]at h1;obtain⟨hv,_⟩:=Be h1;refine Dc h (v:=.int k (k.wrap z)) ?_ ⟨rfl,rfl⟩;rw[hv];simp [convert,run_underlying hs,run_underlying hd,Conv.intToInt]
  exact h.elim
 ·rename_i e hs hd;split at ht
  ·rename_i he8;simp only[Ka]at ht;subst ht;simp only[ev]at h;have hru:∀v,(convert s d v).run P w=(match v with|.slice A n c=>(Conv.bytesToString (.slice A n c)).run P w|_=>(convert s d v).run P w):=by
    intro v;split
    ·simp [convert,run_underlying hs,run_underlying hd,run_underlying he8]
    rfl
   split at h
   ·rename_i r p lo n he;rw[he]at h1;obtain⟨hr,hsz,hnil,hle,A,hv,hA⟩:=Be h1;obtain⟨l,hl,hK⟩:=h;simp only[Ra,Kg]at hl;obtain⟨m,hm,hl⟩:=hl;split at hl
    ·rename_i hlen;obtain⟨hr',hc⟩:=hR.hp.node hm;have hm1:m.1=1:=by rw[<-hc.szp,hsz]
     obtain⟨ns,hns,hnl,hcell⟩:=Zsq (w:=w) (b:=(pl r p).b) (off:=(pl r p).off+lo) hl (fun i e c dd hi hcc=>by
      have hi':=Mz rfl i e hi;obtain⟨v,hv,hdv⟩:=hc.cells (lo+i) e c dd hi' hcc;rw[hm1]at hv;refine⟨v,by rw[Khd]at hv;rwa [Kgb,<-Kgb lo], ?_⟩;rintro x rfl;exact hdv.1)
     have hnl':ns.length=n:=by rw[hnl];simp;omega
     refine Dc hK (v:=.string ⟨l.toArray⟩) ?_ ⟨rfl,rfl⟩;rw[hv,hru];simp only;cases A with
     | none =>
      have hn0:n=0:=by
       by_cases h0:n=0
       ·exact h0
       exfalso;have:=hA (.inl (by omega));cases hq:(pl r p).nil with
       | true=>have:=hnil hq;omega
       | false=>rw[hq]at this;simp at this
      subst hn0;have:ns=[]:=Kyc.1 hnl';subst this;rw[hns];simp [Conv.bytesToString,ByteArray.empty,ByteArray.emptyWithCapacity];rfl
     | some A =>
      have hload:(loadCells A n).run P w=.ok (ns.map (Value.int .u8)).toArray w:=by
       by_cases h0:n=0
       ·subst h0;have:ns=[]:=Kyc.1 hnl';subst this;simp [loadCells,loadCellsFrom]
       have hA':=hA (.inl (by omega));have hnn:(pl r p).nil=false:=by
        cases hq:(pl r p).nil with
        | false=>rfl
        | true=>have:=hnil hq;omega
       rw[hnn]at hA';simp only[Kka,if_false,Ka]at hA';have:=run_loadCells_list (P:=P) w A (ns.map (Value.int .u8)) (fun j v hj=>by
        rw[hA',Addr.add_lit,hsz,Khd];exact hcell j v hj)
       rwa [Ko,hnl']at this
      rw[run_bytesToString w A n _ ns hload,hns];rw[show (ns.foldl (fun r n=>r.push (UInt8.ofNat n.toNat)) ByteArray.empty)=((ns.map fun n=>UInt8.ofNat n.toNat).foldl (fun r n=>r.push n) ByteArray.empty) by rw[List.foldl_map],Zvt];simp [ByteArray.empty,ByteArray.emptyWithCapacity];rfl
    simp at hl
   ·rename_i he;rw[he]at h1;have hv:a.eval x=.slice none 0 0:=Be h1;refine Dc h (v:=.string .empty) ?_ ⟨rfl,rfl⟩;rw[hv,hru];simp [Conv.bytesToString]
   exact h.elim
  simp at ht
 ·rename_i hs hd;simp only[Ka]at ht;subst ht;simp only[ev]at h;split at h
  ·rename_i s' he;rw[he]at h1;obtain⟨hv,_⟩:=Be h1;refine Dc h (v:=.string s') ?_ ⟨rfl,rfl⟩;rw[hv];simp [convert,run_underlying hs,run_underlying hd]
  exact h.elim
 simp at ht
theorem Zex {nx:Nat}{x:V}{v:Value}{ys:List C}(h:VR pl nx x v) (hy:Qb x=some ys):Ab (CR pl nx) ys v.cells.toList:=by
 unfold Qb at hy;split at hy
 ·simp only[Ka]at hy;subst hy;rw[Yfl (CR.one (Be h))];exact⟨Be h,trivial⟩
 ·simp only[Ka]at hy;subst hy;obtain⟨vs,rfl,hall⟩:=h;simpa [Value.cells] using hall
 simp at hy
theorem Ybj (off:Nat):∀(vs:List Value) (k:Nat) (cs:Array Value),off+k+vs.length<=cs.size ->
  ((vs.zipIdx k).foldl (fun cs (c,j)=>cs.setIfInBounds (off+j) c) cs).toList=cs.toList.take (off+k)++(vs++cs.toList.drop (off+k+vs.length))
 | [],k,cs,h=>by simp
 | v::vs,k,cs,h=>by
  simp only[Kf]at h;rw[List.zipIdx_cons,Ktc];rw[Ybj off vs (k+1) _ (by simp;omega)];simp only[Array.toList_setIfInBounds,Kf];apply Kzc;intro j;simp only[List.getElem?_append,Kua,Kee,Ksb,Kwa,Kya,Kdb,List.getElem?_cons,Kf];by_cases h1:j<off+k
  ·simp [h1,show j<min (off+(k+1)) cs.size by omega,show j<min (off+k) cs.size by omega,show j<off+(k+1) by omega,show ¬off+k=j by omega]
  by_cases h2:j=off+k
  ·subst h2;simp [show off+k<min (off+(k+1)) cs.size by omega,show off+k<cs.size by omega,show ¬(off+k<min (off+k) cs.size) by omega,show off+k-min (off+k) cs.size=0 by omega,show off+k<off+(k+1) by omega]
  have e1:¬j<min (off+(k+1)) cs.size:=by omega
  have e2:¬j<min (off+k) cs.size:=by omega
  have e3:min (off+(k+1)) cs.size=off+k+1:=by omega
  have e4:min (off+k) cs.size=off+k:=by omega
  simp only[e1,e2,if_false];rw[e3,e4];have e5:j-(off+k)-1=j-(off+k+1):=by omega
  by_cases h3:j-(off+k+1)<vs.length
  ·have h4:j-(off+k)<vs.length+1:=by omega
   simp [h3,h4,show ¬(j-(off+k)=0) by omega,e5]
  have h4:¬j-(off+k)<vs.length+1:=by omega
  simp only[h3,h4,if_false];have e6:off+(k+1)+vs.length+(j-(off+k+1)-vs.length)=j:=by omega
  have e7:off+k+(vs.length+1)+(j-(off+k)-(vs.length+1))=j:=by omega
  rw[e6,e7,if_neg (by omega)]
theorem Ab.append {α β:Type}{R:α->β->Prop}:∀{as:List α}{bs:List β}{cs:List α}{ds:List β},Ab R as bs->Ab R cs ds->Ab R (as++cs) (bs++ds)
 | [],[],_,_,_,h=>h
 | _::_,_::_,_,_,h,k=>⟨h.1,Ab.append h.2 k⟩
 | [],_::_,_,_,h,_=>h.elim
 | _::_,[],_,_,h,_=>h.elim
theorem Ab.take {α β:Type}{R:α->β->Prop}:∀(n:Nat){as:List α}{bs:List β},Ab R as bs->Ab R (as.take n) (bs.take n)
 | 0,_,_,_=>by simp [Ab]
 | n+1,[],[],_=>trivial
 | n+1,_::_,_::_,h=>⟨h.1,Ab.take n h.2⟩
 | n+1,[],_::_,h=>h.elim
 | n+1,_::_,[],h=>h.elim
theorem Ab.drop {α β:Type}{R:α->β->Prop}:∀(n:Nat){as:List α}{bs:List β},Ab R as bs->Ab R (as.drop n) (bs.drop n)
 | 0,_,_,h=>h
 | n+1,[],[],_=>trivial
 | n+1,_::_,_::_,h=>Ab.drop n h.2
 | n+1,[],_::_,h=>h.elim
 | n+1,_::_,[],h=>h.elim
theorem Zfv (hR:Rel N w0 own0 pl0 g pl S a w) (place:Nat->Option (Nat×Nat)):∀(parts:List (Nat×Operand)) (offs:List (Nat×Nat×Opd)) (cs:List C) (vs:Array Value) (out:List C),
  Ab (fun (p:Nat×Operand) (o:Nat×Nat×Opd)=>place p.1=some (o.1,o.2.1)/\∃tx,trO P tx p.2=some o.2.2) parts offs ->
  Ab (CR pl S.next) cs vs.toList->Hh S cs offs=some out ->
  ∃arr,Instr.fill place vs (parts.map fun p=>(p.1,a.eval p.2))=some arr/\Ab (CR pl S.next) out arr.toList
 | [],[],cs,vs,out,_,hall,hf=>by simp only[Hh,Ka]at hf;subst hf;exact⟨vs,rfl,hall⟩
 | (i,x)::parts,(off,sz,y)::offs,cs,vs,out,hp,hall,hf=>by
  obtain⟨⟨hpl,tx,htr⟩,hp⟩:=hp;simp only at hpl htr;unfold Hh at hf;split at hf
  ·rename_i ys hys;split at hf
   ·rename_i hle;have hv:=Zex (Bk hR htr) hys;have hl:=hv.length;have hl2:=hall.length;simp only[Ksb]at hl hl2;have e:=Ybj off (a.eval x).cells.toList 0 vs (by simp;omega);obtain⟨arr,h1,h2⟩:=Zfv hR place parts offs _ ((a.eval x).cells.zipIdx.foldl (fun cs (c,j)=>cs.setIfInBounds (off+j) c) vs) out hp (by
     rw[<-Array.foldl_toList,Array.toList_zipIdx,e];simp only[Kga,Ksb];rw[<-hl,hle.1];exact (hall.take off).append (hv.append (hall.drop _))) hf
    refine⟨arr, ?_,h2⟩;simp only[Ke,Instr.fill,hpl];rw[if_neg (by rw[<-hl];simp;omega)];exact h1
   simp at hf
  simp at hf
 | [],_::_,_,_,_,h,_,_=>h.elim
 | _::_,[],_,_,_,h,_,_=>h.elim
theorem Qc {nx:Nat}{t:TypeId}{v:Value}{cs:List C}(h:Ms P t v=some cs):Ab (CR pl nx) cs v.cells.toList:=by
 unfold Ms at h;split at h
 ·rename_i hall;simp only[Ka]at h;subst h;exact Ze6 P pl nx _ _ fun u hu=>by simpa using (Kde.1 hall) u (by simpa using hu)
 simp at h
theorem Ydi {fs:Array Field}{places:List (Nat×Nat)}(hpl:fs.toList.mapM (fun f=>(P.info? f.type).map fun i=>(f.offset,i.size))=some places) :
  ∀(parts:List (Nat×Operand)) (offs:List (Nat×Nat×Opd)),Zca P fs parts=some offs ->
  Ab (fun (p:Nat×Operand) (o:Nat×Nat×Opd)=>places.toArray[p.1]? = some (o.1,o.2.1)/\∃tx,trO P tx p.2=some o.2.2) parts offs
 | [],offs,h=>by simp only[Zca,Ka]at h;subst h;trivial
 | (i,x)::parts,offs,h=>by
  simp only[Zca,Kl,Kg,Ka]at h;obtain⟨f,hf,j,hj,y,hy,rest,hr,rfl⟩:=h;refine⟨⟨?_,_,hy⟩,Ydi hpl parts rest hr⟩;simp only[List.getElem?_toArray];have hl:∀(l:List Field) (q:List (Nat×Nat)),l.mapM (fun f=>(P.info? f.type).map fun i=>(f.offset,i.size))=some q->∀(k:Nat) (f:Field) (j:TypeInfo),l[k]? = some f->P.info? f.type=some j->q[k]? = some (f.offset,j.size):=by
   intro l
   induction l with
   | nil=>intro q _ k f j hk;simp at hk
   | cons b l ih =>
    intro q hq k f j hk hj;simp only[List.mapM_cons,Kl,Kg,Option.pure_def,Ka,Ks]at hq;obtain⟨z,⟨jb,hjb,rfl⟩,rest,hrest,rfl⟩:=hq;cases k with
    | zero=>simp at hk;subst hk;rw[hjb]at hj;simp at hj;subst hj;rfl
    | succ k=>simpa using ih rest hrest k f j (by simpa using hk) hj
  exact hl fs.toList places hpl i f j (by simpa using hf) hj
theorem Ydh {e:TypeId}{sz:Nat}:∀(parts:List (Nat×Operand)) (offs:List (Nat×Nat×Opd)),Zb9 P e sz parts=some offs ->
  Ab (fun (p:Nat×Operand) (o:Nat×Nat×Opd)=>(fun i=>some (i*sz,sz)) p.1=some (o.1,o.2.1)/\∃tx,trO P tx p.2=some o.2.2) parts offs
 | [],offs,h=>by simp only[Zb9,Ka]at h;subst h;trivial
 | (i,x)::parts,offs,h=>by
  simp only[Zb9,Kl,Kg,Ka]at h;obtain⟨y,hy,rest,hr,rfl⟩:=h;exact⟨⟨rfl,_,hy⟩,Ydh parts rest hr⟩
theorem Ygd (hR:Rel N w0 own0 pl0 g pl S a w){t:TypeId}{parts:Array (Nat×Operand)}{ty:TypeId}{i:I}(ht:trR P ty (.build t parts)=some i) (h:ev S K i) :
  Gp P pl S.next K (Instr.build t (parts.map fun (i,x)=>(i,a.eval x))) w:=by
 simp only[trR,Kl,Kg]at ht;obtain⟨it,hit,z,hz,ht⟩:=ht;split at ht
 ·rename_i fs hu;split at ht
  ·rename_i hall;simp only[Kg,Ka]at ht;obtain⟨zc,hzc,offs,hoffs,rfl⟩:=ht;obtain⟨cs,hcs,hK⟩:=h;obtain⟨places,hpl⟩:∃places,fs.toList.mapM (fun f=>(P.info? f.type).map fun i=>(f.offset,i.size))=some places:=by
    have:∀l:List Field,(∀f∈l,(P.info? f.type).isSome)->∃q,l.mapM (fun f=>(P.info? f.type).map fun i=>(f.offset,i.size))=some q:=by
     intro l
     induction l with
     | nil=>intro _;exact⟨[],rfl⟩
     | cons b l ih =>
      intro hb;obtain⟨q,hq⟩:=ih fun f hf=>hb f (by simp [hf]);obtain⟨j,hj⟩:=Kcg.1 (hb b (by simp));exact⟨(b.offset,j.size)::q,by simp [List.mapM_cons,hj,hq]⟩
    exact this _ fun f hf=>(Kde.1 hall) f (by simpa using hf)
   obtain⟨arr,h1,h2⟩:=Zfv hR (places.toArray[·]?) parts.toList offs zc z.cells cs (Ydi hpl _ _ hoffs) (Qc hzc) hcs;refine Vq (vs:=arr.toList) hK ?_ h2;rw[run_build w t _ arr];unfold Program.built;simp only[hit,hu,hz,hpl];simpa using h1
  simp at ht
 ·rename_i n e hu;simp only[Kl,Kg,Ka]at ht;obtain⟨j,hj,zc,hzc,offs,hoffs,rfl⟩:=ht;obtain⟨cs,hcs,hK⟩:=h;obtain⟨arr,h1,h2⟩:=Zfv hR (fun i=>some (i*j.size,j.size)) parts.toList offs zc z.cells cs (Ydh _ _ hoffs) (Qc hzc) hcs;refine Vq (vs:=arr.toList) hK ?_ h2;rw[run_build w t _ arr];unfold Program.built;simp only[hit,hu,hz,hj];simpa using h1
 simp at ht
theorem Zs0 (hR:Rel N w0 own0 pl0 g pl S a w):∀(l:List Operand) (xs:List Opd) (as:List A),Jy P [] l=some xs->Lv (xs.map S.opd)=some as->Ab (AR pl S.next) as (l.map a.eval)
 | [],xs,as,h,k=>by
  simp only[Jy,Ka]at h;subst h;simp only[Ktb,Lv,Ka]at k;subst k;trivial
 | x::l,xs,as,h,k=>by
  simp only[Jy,Kl,Kg,Ka]at h;obtain⟨y,hy,ys,hys,rfl⟩:=h;have h1:=Bk hR hy;simp only[Ke]at k;cases hc:S.opd y with
  | a z =>
   rw[hc]at k h1;simp only[Lv,Ks]at k;obtain⟨zs,hz,rfl⟩:=k;exact⟨h1,Zs0 hR l ys zs hys hz⟩
  | un=>rw[hc]at k;simp [Lv]at k
  | tp _=>rw[hc]at k;simp [Lv]at k
  | fn _ _=>rw[hc]at k;simp [Lv]at k
  | sb _ _=>rw[hc]at k;simp [Lv]at k
theorem Zu9 (hR:Rel N w0 own0 pl0 g pl S a w){o:Oper}{i:I}(ht:trR P o.type o.op=some i) (h:ev S K i) :
  ∃v x,(execOp a.eval o).run P w=.ok (.value v) w/\VR pl S.next x v/\K x:=by
 obtain⟨dst,op,ty,pos,after,guard⟩:=o;have lift:∀{s:Sem Value},Gp P pl S.next K s w->(execOp a.eval ⟨dst,op,ty,pos,after,guard⟩=do pure (.value (<- s))) ->
   ∃v x,(execOp a.eval ⟨dst,op,ty,pos,after,guard⟩).run P w=.ok (.value v) w/\VR pl S.next x v/\K x:=by
  rintro s ⟨v,x,hr,hv,hK⟩ he;refine⟨v,x, ?_,hv,hK⟩;rw[he];simp [hr]
 cases op with
 | move x =>
  simp only[trR,Ks]at ht;obtain⟨y,hy,rfl⟩:=ht;exact lift (Zty hR hy h) rfl
 | assign x =>
  simp only[trR,Ks]at ht;obtain⟨y,hy,rfl⟩:=ht;exact lift (Zty hR hy h) rfl
 | pick c x y=>exact lift (Ygn hR ht h) (by simp [execOp])
 | load t x=>exact lift (Ygl hR ht h) rfl
 | binOp op t x y t'=>exact lift (Ygc hR ht h) rfl
 | unOp op t x=>exact lift (Ygp hR ht h) rfl
 | convert s d x=>exact lift (Yge hR ht h) rfl
 | slice t x lo hi mx=>exact lift (Ygo hR ht h) rfl
 | fieldAddr t x f=>exact lift (Ygg hR ht h) rfl
 | field t x f=>exact lift (Ygh hR ht h) rfl
 | indexAddr t x y=>exact lift (Ygi hR ht h) rfl
 | index t x y=>exact lift (Ygj hR ht h) rfl
 | extract x n=>exact lift (Ygf hR ht h) rfl
 | nilCheck x =>
  simp only[trR,Ks]at ht;obtain⟨y,hy,rfl⟩:=ht;obtain⟨A,hA,z,hz,hK⟩:=Ygm hR hy h;refine⟨_,z, ?_,hz,hK⟩;simp [execOp,hA]
 | call c =>
  obtain⟨callee,args,tys⟩:=c;cases callee with
  | builtin b =>
   cases b<;>first
    | (simp [trR]at ht;done)
    | exact lift (Ygk hR (ty':=ty) ht h) (by simp [execOp,resolve,invoke,builtin])
  | value f=>simp [trR]at ht
  | invoke _ _=>simp [trR]at ht
 | build t parts=>exact lift (Ygd hR ht h) rfl
 | makeFunc fn first caps =>
  cases fn with
  | func f =>
   simp only[trR]at ht;split at ht
   ·rename_i hs;simp only[Ks]at ht;obtain⟨xs,hxs,rfl⟩:=ht;simp only[ev]at h;obtain⟨as,has,hK⟩:=h;have:=Zs0 hR _ _ _ hxs has;have hf:first=#[]:=Array.eq_empty_of_size_eq_zero hs
    subst hf;refine⟨.func (.func f) #[] (caps.map a.eval),.fn f as, ?_,⟨caps.toList.map a.eval, ?_,this⟩,hK⟩
    ·simp [execOp,Instr.makeFunc]
    congr 1;apply Array.ext';simp
   simp at ht
  | _=>simp [trR]at ht
 | _=>simp [trR]at ht
end Go.Vs
namespace Go.Vs
variable [Glb]
theorem Yeh {b o b' o':Nat}(h:¬(b=b'/\o=o')):(⟨b,o,none⟩:Addr)≠⟨b',o',none⟩:=by
 intro e;injection e with e1 e2;exact h ⟨e1,e2⟩
theorem H3 {w:World}{b o b' o':Nat}{v:Value}(h:¬(b=b'/\o=o')):(w.setCell ⟨b,o,none⟩ v).cell? ⟨b',o',none⟩=w.cell? ⟨b',o',none⟩ :=
 World.cell?_setCell_other w _ _ v (Yeh h)
section
variable {w0:World} {own0:Nat->Nat->Prop} {w:World}
theorem Fr.setCell (h:Fr w0 own0 w){b o:Nat}(hb:w0.heap.size<=b\/own0 b o) (v:Value):Fr w0 own0 (w.setCell ⟨b,o,none⟩ v) where
 gl:=h.gl
 os:=h.os
 tape:=h.tape
 output:=h.output
 size:=by rw[World.size_setCell];exact h.size
 block:=fun k hk ho=>by
  rw[RowKit.Below.heap_setCell _ _ _ _ (by rintro rfl;exact hb.elim (fun hb=>by omega) (fun hb=>ho _ hb))];exact h.block k hk ho
 cell:=fun k j hk ho=>by
  rw[World.frozen?_setCell];rw[H3 (by rintro ⟨rfl,rfl⟩;exact hb.elim (fun hb=>by omega) (fun hb=>ho hb))];exact h.cell k j hk ho
theorem Fr.alloc (h:Fr w0 own0 w) (o:Obj):Fr w0 own0 (w.alloc o) where
 gl:=h.gl
 os:=h.os
 tape:=h.tape
 output:=h.output
 size:=by have:=h.size;simp;omega
 block:=fun k hk ho=>by
  have:=h.size;rw[RowKit.Below.heap_alloc _ _ _ (by omega)];exact h.block k hk ho
 cell:=fun k j hk ho=>by
  have:=h.size;rw[World.cell?_alloc_old w o _ (by simp;omega),World.frozen?_alloc_old w o _ (by simp;omega)];exact h.cell k j hk ho
theorem Fr.drew (h:Fr w0 own0 w):Fr w0 own0 w.drew:=⟨h.os,h.tape,h.output,h.size,h.block,h.cell,h.gl⟩
theorem Fr.refl (w:World) (own0:Nat->Nat->Prop) (hg:∀b o v,F0 b o=some v->b<w.heap.size/\¬own0 b o/\w.cell? ⟨b,o,none⟩=some v):Fr w own0 w:=⟨rfl,rfl,rfl,Kc _,fun _ _ _=>rfl,fun _ _ _ _=>⟨rfl,rfl⟩,hg⟩
end
structure Keep (st:Nat->Nat->Prop) (w:World) (g:Lab) (pl:Pls) (nx:Nat) (w':World) (g':Lab) (pl':Pls) (nx':Nat) (r:Nat):Prop where
 lab:∀b o q,g b o=some (r,q)->g' b o=some (r,q)/\w'.cell? ⟨b,o,none⟩=w.cell? ⟨b,o,none⟩/\w'.frozen? ⟨b,o,none⟩=w.frozen? ⟨b,o,none⟩
 st:∀b o,st b o->w'.cell? ⟨b,o,none⟩=w.cell? ⟨b,o,none⟩
 pl:∀q,pl' r q=pl r q
theorem lin {i len c sz cap:Nat}(h:i<len) (hl:len<=cap) (hc:c<sz):i*sz+c<cap*sz:=by
 have:(i+1)*sz<=cap*sz:=Kac _ (by omega);rw[Kbb,Nat.one_mul]at this;omega
theorem NodeC.bound {w:World}{pl:Pls}{r:Nat}{p:Af}{sz:Nat}{es:List (List D)}(h:NodeC w pl r p sz es){i c:Nat}{e:List D}{d:D}
  (he:es[i]? = some e) (hd:e[c]? = some d):i<es.length/\c<sz/\i*sz+c<(pl r p).cap*sz/\i*sz+c<es.length*sz:=by
 have hi:i<es.length:=by
  rcases Kfc i es.length with h'|h'
  ·exact h'
  simp [Kjc h']at he
 have hc:c<sz:=by
  rw[<-h.szs e (Kaa he)];rcases Kfc c e.length with h'|h'
  ·exact h'
  simp [Kjc h']at hd
 exact⟨hi,hc,lin hi h.le hc,lin hi (Kc _) hc⟩
theorem NodeC.move {w w':World}{pl pl':Pls}{r r':Nat}{p p':Af}{sz:Nat}{es:List (List D)}(h:NodeC w pl r p sz es)
  (hp:pl' r' p'=pl r p) (hch:∀i c e d,es[i]? = some e->e[c]? = some d->pl' r' (p'++[(i,c)])=pl r (p++[(i,c)]))
  (hc:∀j,j<es.length*sz->w'.cell? ⟨(pl r p).b,(pl r p).off+j,none⟩=w.cell? ⟨(pl r p).b,(pl r p).off+j,none⟩):NodeC w' pl' r' p' sz es where
 szp:=by rw[hp];exact h.szp
 le:=by rw[hp];exact h.le
 nil:=by rw[hp];exact h.nil
 szs:=h.szs
 cells:=fun i e c d he hd=>by
  obtain⟨v,hv,hdv⟩:=h.cells i e c d he hd;refine⟨v, ?_,by rw[hch i c e d he hd];exact hdv⟩;rw[hp,hc _ (h.bound he hd).2.2.2];exact hv
theorem N2.move {w w':World}{g g':Lab}{pl pl':Pls}{r r':Nat}{p p':Af}(h:N2 w g pl r p) (hp:pl' r' p'=pl r p)
  (hl:∀b o,g b o=some (r,p)->g' b o=some (r',p')/\((∃v,w.cell? ⟨b,o,none⟩=some v)->∃v,w'.cell? ⟨b,o,none⟩=some v)/\w'.frozen? ⟨b,o,none⟩=w.frozen? ⟨b,o,none⟩):N2 w' g' pl' r' p':=by
 intro j hj;rw[hp]at hj ⊢;obtain⟨h1,h2,h3⟩:=h j hj;obtain⟨k1,k2,k3⟩:=hl _ _ h1;exact⟨k1,k2 h2,k3.trans h3⟩
def Root.map (k:C->C):Root->Root
 | .bx cs=>.bx (cs.map k)
 | .ib cs=>.ib (cs.map k)
 | x=>x
theorem Keep.root {st:Nat->Nat->Prop}{w w':World}{g g':Lab}{pl pl':Pls}{nx nx' r:Nat}{κ:C->C}(k:Keep st w g pl nx w' g' pl' nx' r) (hκ:∀x v,CR pl nx x v->CR pl' nx' (κ x) v)
  {x:Root} (h:Dj st w g pl nx r x):Dj st w' g' pl' nx' r (x.map κ):=by
 cases x with
 | tr sz es =>
  intro p n hn;obtain⟨hc,hm⟩:=h p n hn;refine⟨hc.move (k.pl p) (fun _ _ _ _ _ _=>k.pl _) fun j hj=>?_,hm.move (k.pl p) fun b o hb=>?_⟩
  ·have:=Kac n.1 hc.le;exact (k.lab _ _ _ (hm j (by rw[hc.szp];omega)).1).2.1
  obtain⟨a,b',c⟩:=k.lab _ _ _ hb;exact⟨a,fun ⟨v,hv⟩=>⟨v,by rw[b'];exact hv⟩,c⟩
 | im sz es =>
  intro p n hn;obtain⟨hc,hm⟩:=h p n hn;refine⟨hc.move (k.pl p) (fun _ _ _ _ _ _=>k.pl _) fun j hj=>?_,fun j hj=>?_⟩
  ·exact k.st _ _ (hm j (by rw[hc.szp];omega))
  rw[k.pl]at hj ⊢;exact hm j hj
 | bx cs =>
  intro c x hx;simp only[Kba,Ks]at hx;obtain⟨y,hy,rfl⟩:=hx;obtain⟨v,h1,h2,h3,h4⟩:=h c y hy;obtain⟨a,b,d⟩:=k.lab _ _ _ h3;rw[k.pl];exact⟨v,by rw[b];exact h1,hκ _ _ h2,a,by rw[d];exact h4⟩
 | ib cs =>
  intro c x hx;simp only[Kba,Ks]at hx;obtain⟨y,hy,rfl⟩:=hx;obtain⟨v,h1,h2,h3⟩:=h c y hy;rw[k.pl];exact⟨v,by rw[k.st _ _ h3];exact h1,hκ _ _ h2,h3⟩
theorem Root.map_id (x:Root):x.map (fun c=>c)=x:=by cases x<;>simp [Root.map]
theorem Keep.root' {st:Nat->Nat->Prop}{w w':World}{g g':Lab}{pl pl':Pls}{nx nx' r:Nat}(k:Keep st w g pl nx w' g' pl' nx' r) (hκ:∀x v,CR pl nx x v->CR pl' nx' x v)
  {x:Root} (h:Dj st w g pl nx r x):Dj st w' g' pl' nx' r x:=by
 have:=k.root (κ:=fun c=>c) hκ h
 rwa [Root.map_id]at this
section
variable {w0:World} {own0:Nat->Nat->Prop} {pl0:Pls} {g:Lab} {pl:Pls} {roots:List (Nat×Root)} {nx nc fix:Nat} {w:World}
theorem Hp.drew (h:Hp w0 own0 pl0 g pl roots nx nc fix w):Hp w0 own0 pl0 g pl roots nx nc fix w.drew:=⟨h.fr.drew,h.lab,h.fixed,h.fixle,h.ncle,fun r x hx=>⟨(h.roots r x hx).1,Keep.root' (w:=w) (w':=w.drew) (g:=g) (pl:=pl) (nx:=nc) ⟨fun b o q hb=>⟨hb,rfl,rfl⟩,fun _ _ _=>rfl,fun _=>rfl⟩ (fun _ _ k=>k) (h.roots r x hx).2⟩⟩
theorem Hp.bump (h:Hp w0 own0 pl0 g pl roots nx nc fix w):Hp w0 own0 pl0 g pl roots nx nx fix w :=
 ⟨h.fr,h.lab,h.fixed,h.fixle,Kc _,fun r x hx=>⟨(h.roots r x hx).1,Keep.root' (nx:=nc) ⟨fun b o q hb=>⟨hb,rfl,rfl⟩,fun _ _ _=>rfl,fun _=>rfl⟩ (fun _ _ k=>k.mono h.ncle) (h.roots r x hx).2⟩⟩
def E1 (pl:Pls) (nx:Nat) (L:Af->Pl):Pls:=fun r q=>if r=nx then L q else pl r q
def O1 (g:Lab) (B nx:Nat) (lb:Nat->Option Af):Lab:=fun b o=>if b=B then (lb o).map fun q=>(nx,q) else g b o
theorem Cv (pl:Pls) (nx:Nat) (L:Af->Pl):Es nx pl (E1 pl nx L):=fun r p h=>by unfold E1;rw[if_neg (by omega)]
theorem Cd (pl:Pls) (nx:Nat) (L:Af->Pl) (q:Af):E1 pl nx L nx q=L q:=by unfold E1;rw[if_pos rfl]
theorem Hp.lab_ne (h:Hp w0 own0 pl0 g pl roots nx nc fix w){b o:Nat}{x:Nat×Af}(hx:g b o=some x):b≠w.heap.size:=by have:=(h.lab b o x hx).1;omega
theorem Hp.new (h:Hp w0 own0 pl0 g pl roots nx nc fix w) (o:Obj) (x:Root) (L:Af->Pl) (lb:Nat->Option Af)
  (hx:Dj (Fj w0 own0) (w.alloc o) (O1 g w.heap.size nx lb) (E1 pl nx L) nc nx x) :
  Hp w0 own0 pl0 (O1 g w.heap.size nx lb) (E1 pl nx L) ((nx,x)::roots) (nx+1) nc fix (w.alloc o) where
 fr:=h.fr.alloc o
 lab:=fun b i y hy=>by
  have hs:=h.fr.size;unfold O1 at hy;split at hy
  ·rename_i hb;subst hb;simp only[Ks]at hy;obtain⟨q,hq,rfl⟩:=hy;exact⟨by simp,.inl hs,by simp⟩
  obtain⟨a,b',c⟩:=h.lab b i y hy;exact⟨by simp;omega,b',by omega⟩
 fixed:=fun r p hr=>by rw[Cv pl nx L r p (by have:=h.fixle;omega)];exact h.fixed r p hr
 fixle:=by have:=h.fixle;omega
 ncle:=by have:=h.ncle;omega
 roots:=fun r y hy=>by
  simp only[get]at hy;split at hy
  ·rename_i hr;subst hr;simp only[Ka]at hy;subst hy;exact⟨by omega,hx⟩
  obtain⟨hr,hok⟩:=h.roots r y hy;refine⟨by omega,Keep.root' ⟨?_, ?_, ?_⟩ (fun x v k=>k.agree fun r p hr=>Cv pl nx L r p (by have:=h.ncle;omega)) hok⟩
  ·intro b i q hb;have hne:=h.lab_ne hb;exact⟨by unfold O1;rw[if_neg hne];exact hb,World.cell?_alloc_old w o _ (by simpa using hne),World.frozen?_alloc_old w o _ (by simpa using hne)⟩
  ·intro b i hst;have:=h.fr.size;exact World.cell?_alloc_old w o _ (by simp;have:=hst.1;omega)
  intro q;exact Cv pl nx L r q hr
theorem Hp.newBox (h:Hp w0 own0 pl0 g pl roots nx nc fix w) (cs:List C) (vs:List Value) (t:TypeId) (hall:Ab (CR pl nc) cs vs) :
  Hp w0 own0 pl0 (O1 g w.heap.size nx fun o=>some [(0,o)]) (E1 pl nx fun _=>⟨false,w.heap.size,0,0,1,none⟩) ((nx,.bx cs)::roots) (nx+1) nc fix (w.alloc (.cells vs.toArray t)):=by
 refine h.new _ _ _ _ ?_;intro c x hx;obtain⟨v,hv,hc⟩:=hall.get c x hx;rw[Cd];refine⟨v, ?_,hc.agree fun r p hr=>Cv _ _ _ r p (by have:=h.ncle;omega), ?_, ?_⟩
 ·simp [hv]
 ·simp [O1]
 simp
theorem Hp.newBox_ptr:CR (E1 pl nx fun _=>⟨false,w.heap.size,0,0,1,none⟩) (nx+1) (.pb nx 0) (.pointer (some ⟨w.heap.size,0,none⟩)):=by
 refine⟨by omega, ?_⟩;rw[Cd]
theorem Hp.setBox (h:Hp w0 own0 pl0 g pl roots nx nc fix w){r:Nat}{cs:List C}(hr:get roots r=some (.bx cs)){c:Nat}(hc:c<cs.length){y:C}{u:Value}(hy:CR pl nc y u) :
  Hp w0 own0 pl0 g pl (put roots r (.bx (cs.set c y))) nx nc fix (w.setCell ⟨(pl r []).b,(pl r []).off+c,none⟩ u) /\
   ∃v,w.cell? ⟨(pl r []).b,(pl r []).off+c,none⟩=some v/\w.frozen? ⟨(pl r []).b,(pl r []).off+c,none⟩=false:=by
 obtain⟨hrn,hok⟩:=h.roots r _ hr;obtain⟨v,hv,hcr,hg,hfz⟩:=hok c _ (Ku hc);have hlab:=h.lab _ _ _ hg;refine⟨⟨h.fr.setCell hlab.2.1 u, ?_,h.fixed,h.fixle,h.ncle, ?_⟩,v,hv,hfz⟩
 ·intro b o x hx;rw[World.size_setCell];exact h.lab b o x hx
 intro r' x hx;rw[Ax]at hx;split at hx
 ·rename_i e;subst e;simp only[Ka]at hx;subst hx;refine⟨hrn, ?_⟩;intro k z hz;rw[Kya]at hz;split at hz
  ·rename_i e;subst e;simp only[Ka]at hz;subst hz;exact⟨u,World.cell?_setCell_same w _ u hv,hy,hg,by rw[World.frozen?_setCell];exact hfz⟩
  rename_i hne;obtain⟨v',h1,h2,h3,h4⟩:=hok k z hz;exact⟨v',by rw[H3 (by omega)];exact h1,h2,h3,by rw[World.frozen?_setCell];exact h4⟩
 rename_i hne;obtain⟨hr',hok'⟩:=h.roots r' x hx;refine⟨hr',Keep.root' ⟨?_, ?_,fun _=>rfl⟩ (fun _ _ k=>k) hok'⟩
 ·intro b o q hb;refine⟨hb,H3 ?_,World.frozen?_setCell ..⟩;rintro ⟨rfl,rfl⟩;rw[hg]at hb;simp only[Ka,Kb]at hb;exact hne hb.1
 intro b o hst;refine H3 ?_;rintro ⟨rfl,rfl⟩;rcases hlab.2.1 with k|k
 ·have:=hst.1;omega
 exact hst.2 k
end
end Go.Vs
namespace Go.Vs
variable [Glb]
def Fi (es:List (List D)) (i c:Nat) (d:D):List (List D) :=
 match es[i]? with
 | some e=>es.set i (e.set c d)
 | none=>es
def D0:List (List D)->Af->(List (List D)->List (List D))->List (List D)
 | es,[],f=>f es
 | es,(i,c)::p,f =>
  match es[i]? with
  | some e=>match e[c]? with
   | some (.sl sz es')=>es.set i (e.set c (.sl sz (D0 es' p f)))
   | _=>es
  | none=>es
def Dg (es:List (List D)) (p:Af) (i c:Nat) (d:D):List (List D):=D0 es p fun l=>Fi l i c d
def Sp (es:List (List D)) (p:Af):List (List D) :=
 match p.getLast? with
 | some (i,c)=>Dg es p.dropLast i c .hole
 | none=>es
theorem Zk9 (es:List (List D)) (p:Af) (i c:Nat):Sp es (p++[(i,c)])=Dg es p i c .hole:=by
 simp [Sp]
def Zj0 (d d0:D):Prop:=d=d0\/∃sz l l0,d=.sl sz l/\d0=.sl sz l0/\l.length=l0.length
def Sim (l l0:List (List D)):Prop:=l.length=l0.length/\∀(i:Nat) (e:List D),l[i]? = some e->∃e0:List D,l0[i]? = some e0/\e.length=e0.length/\∀(c:Nat) (d:D),e[c]? = some d->∃d0,e0[c]? = some d0/\Zj0 d d0
theorem Sim.refl (l:List (List D)):Sim l l:=⟨rfl,fun i e h=>⟨e,h,rfl,fun c d hd=>⟨d,hd,.inl rfl⟩⟩⟩
theorem DV.sim {L:Pl}{d d0:D}{v:Value}(s:Zj0 d d0) (h:DV L d0 v):DV L d v:=by
 rcases s with rfl|⟨sz,l,l0,rfl,rfl,e⟩
 ·exact h
 exact⟨h.1,by rw[e];exact h.2⟩
theorem NodeC.sim {w:World}{pl:Pls}{r:Nat}{p:Af}{sz:Nat}{l l0:List (List D)}(h:NodeC w pl r p sz l0) (s:Sim l l0):NodeC w pl r p sz l where
 szp:=h.szp
 le:=by rw[s.1];exact h.le
 nil:=h.nil
 szs:=fun e he=>by
  obtain⟨i,hi⟩:=Klc he;obtain⟨e0,h0,hl,_⟩:=s.2 i e hi;rw[hl];exact h.szs e0 (Kaa h0)
 cells:=fun i e c d he hd=>by
  obtain⟨e0,h0,hl,hc⟩:=s.2 i e he;obtain⟨d0,hd0,hs⟩:=hc c d hd;obtain⟨v,hv,hk⟩:=h.cells i e0 c d0 h0 hd0;exact⟨v,hv,hk.sim hs⟩
theorem getElem?_lt {α:Type}{l:List α}{i:Nat}{x:α}(h:l[i]? = some x):i<l.length:=by
 rcases Kfc i l.length with h'|h'
 ·exact h'
 simp [Kjc h']at h
theorem Yvb {es:List (List D)}{i c:Nat}{e:List D}{d d0:D}(he:es[i]? = some e) (hd:e[c]? = some d0) (s:Zj0 d d0):Sim (es.set i (e.set c d)) es:=by
 refine⟨by simp,fun j x hx=>?_⟩;rw[Kya]at hx;split at hx
 ·rename_i hij;subst hij;split at hx
  ·simp only[Ka]at hx;subst hx;refine⟨e,he,by simp,fun k y hy=>?_⟩;rw[Kya]at hy;split at hy
   ·rename_i hck;subst hck;split at hy
    ·simp only[Ka]at hy;subst hy;exact⟨d0,hd,s⟩
    simp at hy
   exact⟨y,hy,.inl rfl⟩
  simp at hx
 exact⟨x,hx,rfl,fun k y hy=>⟨y,hy,.inl rfl⟩⟩
theorem Yw5 {sz0:Nat}{es:List (List D)}{p:Af}{f:List (List D)->List (List D)}{n:Nat×List (List D)}(hp:Am sz0 es p=some n) (hf:(f n.2).length=n.2.length) :
  (D0 es p f).length=es.length:=by
 cases p with
 | nil=>simp only[Am,Ka]at hp;subst hp;exact hf
 | cons a p =>
  obtain⟨i,c⟩:=a;unfold D0;split
  ·split<;>simp
  rfl
theorem Zym {sz0:Nat}{es:List (List D)}{i c:Nat}{e:List D}{d:D}(he:es[i]? = some e){j k:Nat}(q:Af) (h:¬(j=i/\k=c)) :
  Am sz0 (es.set i (e.set c d)) ((j,k)::q)=Am sz0 es ((j,k)::q):=by
 simp only[Am];have:((es.set i (e.set c d))[j]?).bind (·[k]?)=(es[j]?).bind (·[k]?):=by
  rw[Kya];split
  ·rename_i hij;subst hij;split
   ·rename_i hl;simp only[Kra,he];rw[Kya,if_neg (fun hck=>h ⟨rfl,hck.symm⟩)]
   rename_i hl;rw[Kjc (by omega)]
  rfl
 rw[this]
theorem Zom {sz0:Nat}{es:List (List D)}{i c:Nat}{e:List D}{d d0:D}(he:es[i]? = some e) (hd:e[c]? = some d0) (q:Af) :
  Am sz0 (es.set i (e.set c d)) ((i,c)::q)=match d with|.sl sz' es'=>Am sz' es' q|_=>none:=by
 have h1:=getElem?_lt he;have h2:=getElem?_lt hd;simp only[Am];rw[Kya,if_pos rfl,if_pos h1];simp only[Kra];rw[Kya,if_pos rfl,if_pos h2];cases d<;>rfl
theorem Ziz {f:List (List D)->List (List D)}:∀{p:Af}{sz0:Nat}{es:List (List D)}{n:Nat×List (List D)},Am sz0 es p=some n->(f n.2).length=n.2.length ->
  ∀(q:Af) (m:Nat×List (List D)),Am sz0 (D0 es p f) q=some m ->
   (∃q',q=p++q'/\Am n.1 (f n.2) q'=some m)\/(∃m0,Am sz0 es q=some m0/\¬p <+: q/\m.1=m0.1/\Sim m.2 m0.2)
 | [],sz0,es,n,hp,hf,q,m,hm=>by
  simp only[Am,Ka]at hp;subst hp;exact .inl ⟨q,rfl,hm⟩
 | (i,c)::p,sz0,es,n,hp,hf,q,m,hm=>by
  simp only[Am]at hp;split at hp
  ·rename_i sz' es' hcell;simp only[Kg]at hcell;obtain⟨e,he,hd⟩:=hcell;simp only[D0,he,hd]at hm;cases q with
   | nil =>
    simp only[Am,Ka]at hm;subst hm;refine .inr ⟨(sz0,es),rfl,by simp,rfl,Yvb he hd (.inr ⟨_,_,_,rfl,rfl,Yw5 hp hf⟩)⟩
   | cons a q =>
    obtain⟨j,k⟩:=a;by_cases hjk:j=i/\k=c
    ·obtain⟨rfl,rfl⟩:=hjk;rw[Zom he hd]at hm;simp only at hm;rcases Ziz hp hf q m hm with ⟨q',rfl,h⟩|⟨m0,h1,h2,h3,h4⟩
     ·exact .inl ⟨q',rfl,h⟩
     refine .inr ⟨m0, ?_,by simpa using h2,h3,h4⟩;simp only[Am,he,Kra,hd];exact h1
    rw[Zym he q hjk]at hm;refine .inr ⟨m,hm, ?_,rfl,Sim.refl _⟩;intro hpre;rw[Kef]at hpre;obtain⟨hh,_⟩:=hpre;simp only[Kb]at hh;exact hjk ⟨hh.1.symm,hh.2.symm⟩
  simp at hp
theorem Zib {sz0:Nat}{es:List (List D)}{p:Af}{n:Nat×List (List D)}(hp:Am sz0 es p=some n){i c:Nat}{e:List D}{d0:D}(he:n.2[i]? = some e) (hd:e[c]? = some d0) (d:D)
  (q:Af) (m:Nat×List (List D)) (hm:Am sz0 (Dg es p i c d) q=some m) :
  (q=p/\m=(n.1,n.2.set i (e.set c d)))\/(∃q' sz' es',q=p++(i,c)::q'/\d=.sl sz' es'/\Am sz' es' q'=some m) \/
   (∃m0,Am sz0 es q=some m0/\q≠p/\¬(p++[(i,c)]) <+: q/\m.1=m0.1/\Sim m.2 m0.2):=by
 have hset:Fi n.2 i c d=n.2.set i (e.set c d):=by simp [Fi,he]
 rcases Ziz (f:=fun l=>Fi l i c d) hp (by simp only[hset];simp) q m hm with ⟨q',rfl,h⟩|⟨m0,h1,h2,h3,h4⟩
 ·simp only[hset]at h;cases q' with
  | nil=>simp only[Am,Ka]at h;exact .inl ⟨by simp,h.symm⟩
  | cons a q' =>
   obtain⟨j,k⟩:=a;by_cases hjk:j=i/\k=c
   ·obtain⟨rfl,rfl⟩:=hjk;rw[Zom he hd]at h;cases d with
    | sl sz' es'=>exact .inr (.inl ⟨q',sz',es',rfl,rfl,h⟩)
    | lf v=>simp at h
    | hole=>simp at h
   rw[Zym he q' hjk]at h;refine .inr (.inr ⟨m, ?_,by simp, ?_,rfl,Sim.refl _⟩)
   ·rw[Nc,hp];exact h
   intro hpre;rw[Kyg,Kef]at hpre;obtain⟨hh,_⟩:=hpre;simp only[Kb]at hh;exact hjk ⟨hh.1.symm,hh.2.symm⟩
 refine .inr (.inr ⟨m0,h1, ?_, ?_,h3,h4⟩)
 ·rintro rfl;exact h2 (List.prefix_refl _)
 intro hpre;exact h2 ((Kfe p _).trans hpre)
end Go.Vs
namespace Go.Vs
variable [Glb]
theorem Zxx {i j c k sz:Nat}(hc:c<sz) (hk:k<sz) (h:i*sz+c=j*sz+k):i=j/\c=k:=by
 rcases Kdg i j with hij|hij|hij
 ·have:=Kac sz (show i+1<=j by omega);rw[Kbb,Nat.one_mul]at this;omega
 ·subst hij;omega
 have:=Kac sz (show j+1<=i by omega);rw[Kbb,Nat.one_mul]at this;omega
theorem NodeC.set {w w':World}{pl pl':Pls}{r:Nat}{p:Af}{sz:Nat}{es:List (List D)}(h:NodeC w pl r p sz es){i c:Nat}{e:List D}{d0:D}(he:es[i]? = some e) (hd:e[c]? = some d0) (d:D)
  (hp:pl' r p=pl r p) (hch:∀j k,¬(j=i/\k=c)->pl' r (p++[(j,k)])=pl r (p++[(j,k)]))
  (hw:∀j,j<(pl r p).cap*sz->j≠i*sz+c->w'.cell? ⟨(pl r p).b,(pl r p).off+j,none⟩=w.cell? ⟨(pl r p).b,(pl r p).off+j,none⟩)
  {u:Value} (hu:w'.cell? ⟨(pl r p).b,(pl r p).off+(i*sz+c),none⟩=some u) (hdv:DV (pl' r (p++[(i,c)])) d u):NodeC w' pl' r p sz (es.set i (e.set c d)) where
 szp:=by rw[hp];exact h.szp
 le:=by rw[hp];simp;exact h.le
 nil:=by rw[hp];exact h.nil
 szs:=fun x hx=>by
  obtain⟨j,hj⟩:=Klc hx;rw[Kya]at hj;split at hj
  ·split at hj
   ·simp only[Ka]at hj;subst hj;rw[Kee];exact h.szs e (Kaa he)
   simp at hj
  exact h.szs x (Kaa hj)
 cells:=fun j x k y hx hy=>by
  rw[hp];have hb:=h.bound he hd;by_cases hjk:j=i/\k=c
  ·obtain⟨rfl,rfl⟩:=hjk;rw[Kya,if_pos rfl,if_pos hb.1]at hx;simp only[Ka]at hx;subst hx;rw[Kya,if_pos rfl,if_pos (getElem?_lt hd)]at hy;simp only[Ka]at hy;subst hy;exact⟨u,hu,hdv⟩
  have hold:∃x0,es[j]? = some x0/\x0[k]? = some y:=by
   rw[Kya]at hx;split at hx
   ·rename_i hij;subst hij;rw[if_pos hb.1]at hx;simp only[Ka]at hx;subst hx;rw[Kya,if_neg (fun hck=>hjk ⟨rfl,hck.symm⟩)]at hy;exact⟨e,he,hy⟩
   exact⟨x,hx,hy⟩
  obtain⟨x0,hx0,hy0⟩:=hold;obtain⟨v,hv,hk⟩:=h.cells j x0 k y hx0 hy0;have hb':=h.bound hx0 hy0;refine⟨v, ?_,by rw[hch j k hjk];exact hk⟩;rw[hw _ hb'.2.2.1 (fun e=>hjk (Zxx hb'.2.1 hb.2.1 e))];exact hv
theorem N2.lab {w:World}{g:Lab}{pl:Pls}{r:Nat}{p:Af}{sz:Nat}{es:List (List D)}(m:N2 w g pl r p) (h:NodeC w pl r p sz es){j:Nat}(hj:j<(pl r p).cap*sz) :
  g (pl r p).b ((pl r p).off+j)=some (r,p):=(m j (by rw[h.szp];exact hj)).1
section
variable {w0:World} {own0:Nat->Nat->Prop} {pl0:Pls} {g:Lab} {pl:Pls} {roots:List (Nat×Root)} {nx nc fix:Nat} {w:World}
theorem Zxa (h:Hp w0 own0 pl0 g pl roots nx nc fix w){b o r:Nat}{p:Af}(hg:g b o=some (r,p)) (u:Value){r':Nat}(hne:r'≠r) :
  Keep (Fj w0 own0) w g pl nc (w.setCell ⟨b,o,none⟩ u) g pl nc r' where
 lab:=fun b' o' q hb=>by
  refine⟨hb,H3 ?_,World.frozen?_setCell ..⟩;rintro ⟨rfl,rfl⟩;rw[hg]at hb;simp only[Ka,Kb]at hb;exact hne hb.1.symm
 st:=fun b' o' hst=>by
  refine H3 ?_;rintro ⟨rfl,rfl⟩;rcases (h.lab _ _ _ hg).2.1 with k|k
  ·have:=hst.1;omega
  exact hst.2 k
 pl:=fun _=>rfl
theorem Hp.setLeaf (h:Hp w0 own0 pl0 g pl roots nx nc fix w){r sz0:Nat}{es:List (List D)}(hr:get roots r=some (.tr sz0 es)){p:Af}{n:Nat×List (List D)}(hp:Am sz0 es p=some n)
  {i c:Nat} {e:List D} {d0:D} (he:n.2[i]? = some e) (hd:e[c]? = some d0) {u:Value} (hu:u.oneCell'=true) :
  Hp w0 own0 pl0 g pl (put roots r (.tr sz0 (Dg es p i c (.lf u)))) nx nc fix (w.setCell ⟨(pl r p).b,(pl r p).off+(i*n.1+c),none⟩ u) /\
   ∃v,w.cell? ⟨(pl r p).b,(pl r p).off+(i*n.1+c),none⟩=some v/\w.frozen? ⟨(pl r p).b,(pl r p).off+(i*n.1+c),none⟩=false:=by
 obtain⟨hrn,hok⟩:=h.roots r _ hr;obtain⟨hc,hm⟩:=hok p n hp;have hb:=hc.bound he hd;have hm':=hm (i*n.1+c) (by rw[hc.szp];exact hb.2.2.1);obtain⟨hg,⟨v,hv⟩,hfz⟩:=hm';have hlab:=h.lab _ _ _ hg;refine⟨⟨h.fr.setCell hlab.2.1 u, ?_,h.fixed,h.fixle,h.ncle, ?_⟩,v,hv,hfz⟩
 ·intro b o x hx;rw[World.size_setCell];exact h.lab b o x hx
 intro r' x hx;rw[Ax]at hx;split at hx
 ·rename_i e';subst e';simp only[Ka]at hx;subst hx;refine⟨hrn, ?_⟩;intro q m hq;rcases Zib hp he hd (.lf u) q m hq with ⟨rfl,rfl⟩|⟨q',sz',es',rfl,hbad,_⟩|⟨m0,h1,h2,h3,h4,h5⟩
  ·refine⟨hc.set he hd (.lf u) rfl (fun _ _ _=>rfl) (fun j hj hne=>H3 (by omega)) (World.cell?_setCell_same w _ u hv) ⟨rfl,hu⟩,hm.move rfl fun b o hb'=>⟨hb',fun ⟨z,hz⟩=>?_,World.frozen?_setCell ..⟩⟩;by_cases heq:(pl r q).b=b/\(pl r q).off+(i*n.1+c)=o
   ·obtain⟨rfl,rfl⟩:=heq;exact⟨u,World.cell?_setCell_same w _ u hv⟩
   exact⟨z,by rw[H3 heq];exact hz⟩
  ·cases hbad
  obtain⟨hc0,hm0⟩:=hok q m0 h1;have hne:∀b o,g b o=some (r,q)->¬((pl r p).b=b/\(pl r p).off+(i*n.1+c)=o):=by
   rintro b o hb' ⟨rfl,rfl⟩;rw[hg]at hb';simp only[Ka,Kb,true_and]at hb';exact h2 hb'.symm
  rw[h4];refine⟨(hc0.sim h5).move rfl (fun _ _ _ _ _ _=>rfl) fun j hj=>H3 (hne _ _ (hm0.lab hc0 ?_)),hm0.move rfl fun b o hb'=>⟨hb',fun ⟨z,hz⟩=>⟨z,by rw[H3 (hne _ _ hb')];exact hz⟩,World.frozen?_setCell ..⟩⟩;have:=Kac m0.1 hc0.le;rw[h5.1]at hj;omega
 rename_i hne;obtain⟨hr',hok'⟩:=h.roots r' x hx;exact⟨hr',(Zxa h hg u (fun e=>hne e.symm)).root' (fun _ _ k=>k) hok'⟩
def Ic (pl:Pls) (R:Nat) (pre:Af) (L:Af->Pl):Pls:=fun r q=>if r=R/\pre <+: q then L (q.drop pre.length) else pl r q
theorem Zzb (pl:Pls) (R:Nat) (pre:Af) (L:Af->Pl) (q:Af):Ic pl R pre L R (pre++q)=L q:=by
 unfold Ic;rw[if_pos ⟨rfl,Kfe _ _⟩];simp
theorem Zo7 (pl:Pls) (R:Nat) (pre:Af) (L:Af->Pl):Ic pl R pre L R pre=L []:=by
 have:=Zzb pl R pre L [];simpa using this
theorem Ie {pl:Pls}{R:Nat}{pre:Af}{L:Af->Pl}{r:Nat}{q:Af}(h:¬(r=R/\pre <+: q)):Ic pl R pre L r q=pl r q:=by
 unfold Ic;rw[if_neg h]
theorem S7 (κ:C->C) (r:Nat):∀l:List (Nat×Root),get (l.map fun x=>(x.1,x.2.map κ)) r=(get l r).map (Root.map κ)
 | []=>rfl
 | (k,y)::l=>by simp only[Ke,get];split<;>simp [S7 κ r l]
theorem Ti {p:Af}{i c:Nat}:¬(p++[(i,c)]) <+: p:=by
 intro hh;have:=hh.length_le;simp at this;omega
theorem Zyq {p:Af}{i c j k:Nat}(hjk:¬(j=i/\k=c)):¬(p++[(i,c)]) <+: (p++[(j,k)]):=by
 intro hpre;rw[Kyg,Kef]at hpre;obtain⟨hh,_⟩:=hpre;simp only[Kb]at hh;exact hjk ⟨hh.1.symm,hh.2.symm⟩
theorem Zyr {p q:Af}{i c j k:Nat}(h2:q≠p) (h3:¬(p++[(i,c)]) <+: q):¬(p++[(i,c)]) <+: (q++[(j,k)]):=by
 intro hpre;rcases List.prefix_concat_iff.1 hpre with e|e
 ·exact h2 (List.append_inj' e rfl).1.symm
 exact h3 e
theorem Hp.setNil (h:Hp w0 own0 pl0 g pl roots nx nc fix w){r sz0:Nat}{es:List (List D)}(hr:get roots r=some (.tr sz0 es)){p:Af}{n:Nat×List (List D)}(hp:Am sz0 es p=some n)
  {i c:Nat} {e:List D} (he:n.2[i]? = some e) (hd:e[c]? = some (.lf (.slice none 0 0))) (sz:Nat) (hfix:fix<=r) {κ:C->C}
  (hκ:∀x u,CR pl nc x u->CR (Ic pl r (p++[(i,c)]) fun _=>⟨true,0,0,0,sz,none⟩) nc (κ x) u) :
  Hp w0 own0 pl0 g (Ic pl r (p++[(i,c)]) fun _=>⟨true,0,0,0,sz,none⟩) (put (roots.map fun x=>(x.1,x.2.map κ)) r (.tr sz0 (Dg es p i c (.sl sz [])))) nx nc fix w:=by
 obtain⟨hrn,hok⟩:=h.roots r _ hr;obtain⟨hc,hm⟩:=hok p n hp;have hb:=hc.bound he hd;obtain⟨v,hv,hdv⟩:=hc.cells i e c _ he hd;have hpl:∀q,¬(p++[(i,c)]) <+: q->Ic pl r (p++[(i,c)]) (fun _=>⟨true,0,0,0,sz,none⟩) r q=pl r q:=fun q hq=>Ie fun k=>hq k.2;refine⟨h.fr,h.lab, ?_,h.fixle,h.ncle, ?_⟩
 ·intro r' q hr';rw[Ie (by rintro ⟨rfl,_⟩;omega)];exact h.fixed r' q hr'
 intro r' x hx;rw[Ax]at hx;split at hx
 ·rename_i e';subst e';simp only[Ka]at hx;subst hx;refine⟨hrn, ?_⟩;intro q m hq;rcases Zib hp he hd (.sl sz []) q m hq with ⟨rfl,rfl⟩|⟨q',sz',es',rfl,hbad,hn'⟩|⟨m0,h1,h2,h3,h4,h5⟩
  ·refine⟨hc.set he hd (.sl sz []) (hpl _ Ti) (fun j k hjk=>hpl _ (Zyq hjk)) (fun j hj hne=>rfl) hv ?_,hm.move (hpl _ Ti) fun b o hb'=>⟨hb',id,rfl⟩⟩;rw[Zo7];exact⟨rfl,hdv.1⟩
  ·simp only[D.sl.injEq]at hbad;obtain⟨rfl,rfl⟩:=hbad;cases q' with
   | nil =>
    simp only[Am,Ka]at hn';subst hn';have hq:=Zo7 pl r (p++[(i,c)]) fun _=>⟨true,0,0,0,sz,none⟩;refine⟨⟨by rw[hq],by rw[hq];simp,by rw[hq];simp,by simp,by simp⟩, ?_⟩;intro j hj;rw[hq]at hj;simp at hj
   | cons a q' =>
    obtain⟨j,k⟩:=a;simp [Am]at hn'
  obtain⟨hc0,hm0⟩:=hok q m0 h1;rw[h4];exact⟨(hc0.sim h5).move (hpl _ h3) (fun j k _ _ _ _=>hpl _ (Zyr h2 h3)) fun j hj=>rfl,hm0.move (hpl _ h3) fun b o hb'=>⟨hb',id,rfl⟩⟩
 rename_i hne;rw[S7]at hx;simp only[Ks]at hx;obtain⟨y,hy,rfl⟩:=hx;obtain⟨hr',hok'⟩:=h.roots r' y hy;refine⟨hr',Keep.root ⟨fun b o q hb=>⟨hb,rfl,rfl⟩,fun _ _ _=>rfl,fun q=>?_⟩ hκ hok'⟩;exact Ie (by rintro ⟨rfl,_⟩;exact hne rfl)
def Et (roots:List (Nat×Root)) (r:Nat) (p:Af):List (Nat×Root) :=
 match p with
 | []=>del roots r
 | _=>match get roots r with
  | some (.tr sz es)=>put roots r (.tr sz (Sp es p))
  | _=>roots
theorem Ycj {sz:Nat}{es:List (List D)}{n:Nat}{q:Af}{m:Nat×List (List D)}(h:Am sz (es.take n) q=some m) :
  (q=[]/\m=(sz,es.take n))\/(q≠[]/\Am sz es q=some m):=by
 cases q with
 | nil=>simp only[Am,Ka]at h;exact .inl ⟨rfl,h.symm⟩
 | cons a q =>
  obtain⟨i,c⟩:=a;refine .inr ⟨by simp, ?_⟩;unfold Am at h ⊢;by_cases hi:i<n
  ·rw[Kwa,if_pos hi]at h;exact h
  rw[Kwa,if_neg hi]at h;simp at h
theorem NodeC.take {w:World}{pl:Pls}{r:Nat}{p:Af}{sz:Nat}{es:List (List D)}(h:NodeC w pl r p sz es) (n:Nat):NodeC w pl r p sz (es.take n) where
 szp:=h.szp
 le:=by rw[Kua];have:=h.le;omega
 nil:=h.nil
 szs:=fun e he=>h.szs e (Kjb he)
 cells:=fun i e c d he hd=>by
  rw[Kwa]at he;by_cases hi:i<n
  ·rw[if_pos hi]at he;exact h.cells i e c d he hd
  rw[if_neg hi]at he;simp at he
def L6 (g:Lab) (r:Nat) (p:Af) (R:Nat) (P:Af):Lab:=fun b o =>
 match g b o with
 | some (r',q)=>if r'=r/\p <+: q then some (R,P++q.drop p.length) else some (r',q)
 | none=>none
theorem Znw {g:Lab}{r:Nat}{p:Af}{R:Nat}{P:Af}{b o:Nat}{q:Af}(h:g b o=some (r,p++q)):L6 g r p R P b o=some (R,P++q):=by
 unfold L6;rw[h];simp only[true_and,Kfe,if_true];simp
theorem Wi {g:Lab}{r:Nat}{p:Af}{R:Nat}{P:Af}{b o:Nat}{r':Nat}{q:Af}(h:g b o=some (r',q)) (hn:¬(r'=r/\p <+: q)):L6 g r p R P b o=some (r',q):=by
 unfold L6;rw[h];simp only[hn,if_false]
theorem Znx {g:Lab}{r:Nat}{p:Af}{R:Nat}{P:Af}{b o:Nat}{x:Nat×Af}(h:L6 g r p R P b o=some x):∃y,g b o=some y/\(x.1=R\/x=y):=by
 unfold L6 at h;split at h
 ·rename_i r' q hg;split at h
  ·simp only[Ka]at h;subst h;exact⟨_,hg,.inl rfl⟩
  simp only[Ka]at h;subst h;exact⟨_,hg,.inr rfl⟩
 simp at h
theorem Zv8 {L:Pl}{sz n:Nat}{v:Value}(h:Win L sz 0 n v):v=hdr L n:=by
 obtain⟨hsz,hnil,hle,A,rfl,hA⟩:=h;simp only[hdr,Pl.base,Kxc];rw[hA (.inr rfl)];simp
theorem Zto (h:Hp w0 own0 pl0 g pl roots nx nc fix w){r sz0:Nat}{es:List (List D)}(hr:get roots r=some (.tr sz0 es)){p:Af}{sz:Nat}{es1:List (List D)}(hp:Am sz0 es p=some (sz,es1))
  {x:Root} (hx:get (Et roots r p) r=some x):∃es',x=.tr sz0 es'/\∀q m,Am sz0 es' q=some m->NodeC w pl r q m.1 m.2/\N2 w g pl r q/\¬p <+: q:=by
 obtain⟨hrn,hok⟩:=h.roots r _ hr;by_cases hp0:p=[]
 ·subst hp0;simp [Et,Hj]at hx
 obtain⟨p0,⟨i,c⟩,rfl⟩:∃p0 a,p=p0++[a]:=⟨p.dropLast,p.getLast hp0,(List.dropLast_concat_getLast hp0).symm⟩;have hne:p0++[(i,c)]≠[]:=by simp
 have hcut:Et roots r (p0++[(i,c)])=put roots r (.tr sz0 (Dg es p0 i c .hole)):=by
  unfold Et;split
  ·rename_i hh;exact absurd hh hne
  rw[hr];simp only;rw[Zk9]
 rw[hcut,Ax,if_pos rfl]at hx;simp only[Ka]at hx;refine⟨_,hx.symm, ?_⟩;rw[Nc]at hp;simp only[Kg]at hp;obtain⟨n,hn,hcell⟩:=hp;simp only[Am]at hcell;split at hcell
 ·rename_i sz' es' hb;simp only[Kg]at hb;obtain⟨e,he,hd⟩:=hb;obtain⟨hc,hm⟩:=hok p0 n hn;intro q m hq;rcases Zib hn he hd .hole q m hq with ⟨rfl,rfl⟩|⟨q',sz',es',rfl,hbad,_⟩|⟨m0,h1,h2,h3,h4,h5⟩
  ·obtain⟨v,hv,hdv⟩:=hc.cells i e c _ he hd;exact⟨hc.set he hd .hole rfl (fun _ _ _=>rfl) (fun _ _ _=>rfl) hv hdv.one,hm,Ti⟩
  ·cases hbad
  obtain⟨hc0,hm0⟩:=hok q m0 h1;rw[h4];exact⟨hc0.sim h5,hm0,h3⟩
 simp at hcell
theorem Vm {r r':Nat}{p:Af}(hne:r'≠r):get (Et roots r p) r'=get roots r':=by
 unfold Et;split
 ·rw[Hj,if_neg (fun e=>hne e.symm)]
 split
 ·rw[Ax,if_neg (fun e=>hne e.symm)]
 rfl
theorem Hp.move (h:Hp w0 own0 pl0 g pl roots nx nc fix w){R szR:Nat}{esR:List (List D)}(hR:get roots R=some (.tr szR esR)){P:Af}{nP:Nat×List (List D)}(hP:Am szR esR P=some nP)
  {i c:Nat} {e:List D} {v:Value} (he:nP.2[i]? = some e) (hd:e[c]? = some (.lf v)) (hfix:fix<=R)
  {r:Nat} (hne:r≠R) {p:Af} {sz n sz0:Nat} {es:List (List D)} (hr:get roots r=some (.tr sz0 es)) {es1:List (List D)} (hp:Am sz0 es p=some (sz,es1)) (hn:n<=es1.length)
  (hv:Win (pl r p) sz 0 n v) {κ:C->C} (hκ:∀x u,CR pl nc x u->CR (Ic pl R (P++[(i,c)]) fun q=>pl r (p++q)) nc (κ x) u) :
  Hp w0 own0 pl0 (L6 g r p R (P++[(i,c)])) (Ic pl R (P++[(i,c)]) fun q=>pl r (p++q))
   (put ((Et roots r p).map fun x=>(x.1,x.2.map κ)) R (.tr szR (Dg esR P i c (.sl sz (es1.take n))))) nx nc fix w:=by
 obtain⟨hRn,hokR⟩:=h.roots R _ hR;obtain⟨hrn,hokr⟩:=h.roots r _ hr;obtain⟨hc,hm⟩:=hokR P nP hP;have hpl:∀q,¬(P++[(i,c)]) <+: q->Ic pl R (P++[(i,c)]) (fun q=>pl r (p++q)) R q=pl R q:=fun q hq=>Ie fun k=>hq k.2;have hlo:∀b o q,g b o=some (R,q)->L6 g r p R (P++[(i,c)]) b o=some (R,q):=fun b o q hb=>Wi hb fun k=>hne k.1.symm;refine⟨h.fr, ?_, ?_,h.fixle,h.ncle, ?_⟩
 ·intro b o x hx;obtain⟨y,hy,hxy⟩:=Znx hx;obtain⟨a,b',c'⟩:=h.lab b o y hy;refine⟨a,b', ?_⟩;rcases hxy with e|rfl
  ·rw[e];exact hRn
  exact c'
 ·intro r' q hr';rw[Ie (by rintro ⟨rfl,_⟩;omega)];exact h.fixed r' q hr'
 intro r' x hx;rw[Ax]at hx;split at hx
 ·rename_i e';subst e';simp only[Ka]at hx;subst hx;refine⟨hRn, ?_⟩;intro q m hq;rcases Zib hP he hd (.sl sz (es1.take n)) q m hq with ⟨rfl,rfl⟩|⟨q',sz',es',rfl,hbad,hn'⟩|⟨m0,h1,h2,h3,h4,h5⟩
  ·obtain⟨v',hv',hdv⟩:=hc.cells i e c _ he hd;refine⟨hc.set he hd _ (hpl _ Ti) (fun j k hjk=>hpl _ (Zyq hjk)) (fun j hj hne=>rfl) hv' ?_,hm.move (hpl _ Ti) fun b o hb'=>⟨hlo _ _ _ hb',id,rfl⟩⟩;rw[Zo7,Kw];refine⟨hv.1, ?_⟩;rw[hdv.1,Zv8 hv,Kua,Kod hn]
  ·simp only[D.sl.injEq]at hbad;obtain⟨rfl,rfl⟩:=hbad;have hq0:∀s,Ic pl R (P++[(i,c)]) (fun q=>pl r (p++q)) R (P++(i,c)::s)=pl r (p++s):=by
    intro s;have:=Zzb pl R (P++[(i,c)]) (fun q=>pl r (p++q)) s;simpa using this
   have hold:NodeC w pl r (p++q') m.1 m.2/\N2 w g pl r (p++q'):=by
    rcases Ycj hn' with ⟨rfl,rfl⟩|⟨_,hn''⟩
    ·obtain⟨a,b⟩:=hokr p _ hp;rw[Kw];exact⟨a.take n,b⟩
    exact hokr (p++q') m (by rw[Nc,hp];exact hn'')
   refine⟨hold.1.move (hq0 _) (fun j k _ _ _ _=>?_) fun j hj=>rfl,hold.2.move (hq0 _) fun b o hb'=>⟨?_,id,rfl⟩⟩
   ·have:=hq0 (q'++[(j,k)]);simpa using this
   have:=Znw (R:=R) (P:=P++[(i,c)]) hb';simpa using this
  obtain⟨hc0,hm0⟩:=hokR q m0 h1;rw[h4];exact⟨(hc0.sim h5).move (hpl _ h3) (fun j k _ _ _ _=>hpl _ (Zyr h2 h3)) fun j hj=>rfl,hm0.move (hpl _ h3) fun b o hb'=>⟨hlo _ _ _ hb',id,rfl⟩⟩
 rename_i hneR;rw[S7]at hx;simp only[Ks]at hx;obtain⟨y,hy,rfl⟩:=hx;by_cases hrr:r'=r
 ·subst hrr;obtain⟨es',rfl,hall⟩:=Zto h hr hp hy;refine⟨hrn, ?_⟩;intro q m hq;obtain⟨a,b,hnp⟩:=hall q m hq;have hpr:∀q,Ic pl R (P++[(i,c)]) (fun q=>pl r' (p++q)) r' q=pl r' q:=fun q=>Ie fun k=>hne k.1;exact⟨a.move (hpr _) (fun _ _ _ _ _ _=>hpr _) fun _ _=>rfl,b.move (hpr _) fun b o hb'=>⟨Wi hb' fun k=>hnp k.2,id,rfl⟩⟩
 rw[Vm hrr]at hy;obtain⟨hr',hok'⟩:=h.roots r' y hy;refine⟨hr',Keep.root ⟨fun b o q hb=>⟨Wi hb fun k=>hrr k.1,rfl,rfl⟩,fun _ _ _=>rfl,fun q=>?_⟩ hκ hok'⟩;exact Ie (by rintro ⟨rfl,_⟩;exact hneR rfl)
end
end Go.Vs
namespace Go.Vs
variable [Glb]
def Hv (w:World) (b:Nat):Nat->List Value->World
 | _,[]=>w
 | o,v::vs=>Hv (w.setCell ⟨b,o,none⟩ v) b (o+1) vs
theorem Zia (b:Nat){b' o':Nat}:∀(vs:List Value) (w:World) (o:Nat),¬(b'=b/\o<=o'/\o'<o+vs.length)->(Hv w b o vs).cell? ⟨b',o',none⟩=w.cell? ⟨b',o',none⟩
 | [],_,_,_=>rfl
 | v::vs,w,o,h=>by
  rw[Hv,Zia b vs _ _ (by simp only[Kf]at h;omega),H3 (by simp only[Kf]at h;omega)]
theorem Zp5 (b:Nat):∀(vs:List Value) (w:World) (o:Nat),(∀j,j<vs.length->∃u,w.cell? ⟨b,o+j,none⟩=some u)->∀(j:Nat) (v:Value),vs[j]? = some v->(Hv w b o vs).cell? ⟨b,o+j,none⟩=some v
 | [],_,_,_,j,v,h=>by simp at h
 | x::vs,w,o,hex,j,v,h=>by
  rw[Hv];obtain⟨u,hu⟩:=hex 0 (by simp);cases j with
  | zero =>
   simp at h;subst h;rw[Zia b vs _ _ (by omega)];exact World.cell?_setCell_same w _ _ (by simpa using hu)
  | succ j =>
   have:=Zp5 b vs (w.setCell ⟨b,o,none⟩ x) (o+1) (fun k hk=>by
    obtain⟨u',hu'⟩:=hex (k+1) (by simp;omega);exact⟨u',by rw[H3 (by omega)];rwa [show o+1+k=o+(k+1) by omega]⟩) j v (by simpa using h)
   rwa [show o+1+j=o+(j+1) by omega]at this
theorem Zhr {P:Program}(b:Nat):∀(vs:List Value) (w:World) (o k:Nat),(∀v∈vs,v.oneCell'=true) ->
  (∀j,j<vs.length->(∃u,w.cell? ⟨b,o+k+j,none⟩=some u)/\w.frozen? ⟨b,o+k+j,none⟩=false) ->
  (storeCells ⟨b,o,none⟩ vs k).run P w=.ok () (Hv w b (o+k) vs)
 | [],w,o,k,_,_=>by simp [storeCells,Hv]
 | v::vs,w,o,k,h1,hex=>by
  obtain⟨⟨u,hu⟩,hf⟩:=hex 0 (by simp);simp only[Kga]at hu hf;have ih:=Zhr (P:=P) b vs (w.setCell ⟨b,o+k,none⟩ v) o (k+1) (fun x hx=>h1 x (by simp [hx])) (fun j hj=>by
   obtain⟨⟨u',hu'⟩,hf'⟩:=hex (j+1) (by simp;omega);rw[show o+k+(j+1)=o+(k+1)+j by omega]at hu' hf';exact⟨⟨u',by rw[H3 (by omega)];exact hu'⟩,by rw[World.frozen?_setCell];exact hf'⟩)
  simp only[storeCells,Sem.run_bind,Addr.add_lit];rw[run_store P w _ v _ (h1 v (by simp)),hu];simp only[hf,Kka,if_false,Result.andThen_ok];rw[ih];rfl
section
variable {w0:World} {own0:Nat->Nat->Prop} {pl0:Pls} {g:Lab} {pl:Pls} {roots:List (Nat×Root)} {nx nc fix:Nat} {w:World}
theorem Hp.setSpare (h:Hp w0 own0 pl0 g pl roots nx nc fix w){r sz:Nat}{es:List (List D)}(hr:get roots r=some (.tr sz es)){j:Nat}(h1:es.length*sz<=j) (h2:j<(pl r []).cap*sz) (u:Value) :
  Hp w0 own0 pl0 g pl roots nx nc fix (w.setCell ⟨(pl r []).b,(pl r []).off+j,none⟩ u):=by
 obtain⟨hrn,hok⟩:=h.roots r _ hr;obtain⟨hc,hm⟩:=hok [] _ rfl;have hg:=hm.lab hc h2;obtain⟨_,⟨v,hv⟩,_⟩:=hm j (by rw[hc.szp];exact h2);have hlab:=h.lab _ _ _ hg;refine⟨h.fr.setCell hlab.2.1 u, ?_,h.fixed,h.fixle,h.ncle, ?_⟩
 ·intro b o x hx;rw[World.size_setCell];exact h.lab b o x hx
 intro r' x hx;by_cases hrr:r'=r
 ·subst hrr;rw[hr]at hx;simp only[Ka]at hx;subst hx;refine⟨hrn, ?_⟩;intro q m hq;obtain⟨hc0,hm0⟩:=hok q m hq;refine⟨hc0.move rfl (fun _ _ _ _ _ _=>rfl) fun k hk=>?_,hm0.move rfl fun b o hb'=>⟨hb',fun ⟨z,hz⟩=>?_,World.frozen?_setCell ..⟩⟩
  ·refine H3 ?_;rintro ⟨e1,e2⟩;by_cases hq0:q=[]
   ·subst hq0;simp only[Am,Ka]at hq;subst hq;simp only at hk;omega
   have:=hm0.lab hc0 (j:=k) (by have:=Kac m.1 hc0.le;omega);rw[<-e1,<-e2,hg]at this;simp only[Ka,Kb,true_and]at this;exact hq0 this.symm
  by_cases heq:(pl r' []).b=b/\(pl r' []).off+j=o
  ·obtain⟨rfl,rfl⟩:=heq;exact⟨u,World.cell?_setCell_same w _ u hv⟩
  exact⟨z,by rw[H3 heq];exact hz⟩
 obtain⟨hr',hok'⟩:=h.roots r' x hx;exact⟨hr',(Zxa h hg u hrr).root' (fun _ _ k=>k) hok'⟩
theorem Hp.setSpares {r sz:Nat}{es:List (List D)}(hr:get roots r=some (.tr sz es)):∀(vs:List Value) (w:World) (j:Nat),Hp w0 own0 pl0 g pl roots nx nc fix w->es.length*sz<=j->j+vs.length<=(pl r []).cap*sz ->
  Hp w0 own0 pl0 g pl roots nx nc fix (Hv w (pl r []).b ((pl r []).off+j) vs)
 | [],_,_,h,_,_=>h
 | v::vs,w,j,h,h1,h2=>by
  rw[Hv];simp only[Kf]at h2;exact Hp.setSpares hr vs _ (j+1) (h.setSpare hr h1 (by omega) v) (by omega) (by omega)
theorem Hp.congr {w':World}(h:Hp w0 own0 pl0 g pl roots nx nc fix w) (hfr:Fr w0 own0 w') (hs:w'.heap.size=w.heap.size)
  (hl:∀b o x,g b o=some x->w'.cell? ⟨b,o,none⟩=w.cell? ⟨b,o,none⟩/\w'.frozen? ⟨b,o,none⟩=w.frozen? ⟨b,o,none⟩) (hst:∀b o,Fj w0 own0 b o->w'.cell? ⟨b,o,none⟩=w.cell? ⟨b,o,none⟩) :
  Hp w0 own0 pl0 g pl roots nx nc fix w' :=
 ⟨hfr,fun b o x hx=>by rw[hs];exact h.lab b o x hx,h.fixed,h.fixle,h.ncle,fun r x hx=>⟨(h.roots r x hx).1,Keep.root' (nx:=nc) ⟨fun b o q hb=>⟨hb,hl b o _ hb⟩,hst,fun _=>rfl⟩ (fun _ _ k=>k) (h.roots r x hx).2⟩⟩
theorem Hp.fresh (h:Hp w0 own0 pl0 g pl roots nx nc fix w) (arr:Array Value) (t:TypeId) (cap sz:Nat) (hs:arr.size=cap*sz) :
  Hp w0 own0 pl0 (O1 g w.heap.size nx fun o=>if o<cap*sz then some [] else none) (E1 pl nx fun _=>⟨false,w.heap.size,0,cap,sz,none⟩) ((nx,.tr sz [])::roots) (nx+1) nc fix (w.alloc (.cells arr t)):=by
 refine h.new _ _ _ _ ?_;intro p n hn;cases p with
 | nil =>
  simp only[Am,Ka]at hn;subst hn;refine⟨⟨by rw[Cd],by simp,by rw[Cd];simp,by simp,by simp⟩, ?_⟩;intro j hj;rw[Cd]at hj ⊢;simp only at hj ⊢;refine⟨by simp [O1,hj], ?_,by simp⟩;have:0+j<arr.size:=by omega
  exact⟨arr[0+j],by simp [this]⟩
 | cons a p=>obtain⟨i,c⟩:=a;simp [Am]at hn
theorem Hp.rename (h:Hp w0 own0 pl0 g pl roots nx nc fix w){r sz:Nat}{es:List (List D)}(hr:get roots r=some (.tr sz es)) :
  Hp w0 own0 pl0 (L6 g r [] nx []) (E1 pl nx (pl r)) ((nx,.tr sz es)::del roots r) (nx+1) nc fix w:=by
 obtain⟨hrn,hok⟩:=h.roots r _ hr;refine⟨h.fr, ?_, ?_,by have:=h.fixle;omega,by have:=h.ncle;omega, ?_⟩
 ·intro b o x hx;obtain⟨y,hy,hxy⟩:=Znx hx;obtain⟨a,b',c'⟩:=h.lab b o y hy;refine⟨a,b', ?_⟩;rcases hxy with e|rfl
  ·rw[e];omega
  omega
 ·intro r' q hr';rw[Cv pl nx _ r' q (by have:=h.fixle;omega)];exact h.fixed r' q hr'
 intro r' x hx;simp only[get]at hx;split at hx
 ·rename_i e';subst e';simp only[Ka]at hx;subst hx;refine⟨by omega, ?_⟩;intro q m hq;obtain⟨a,b⟩:=hok q m hq;exact⟨a.move (Cd ..) (fun _ _ _ _ _ _=>Cd ..) fun _ _=>rfl,b.move (Cd ..) fun b o hb=>⟨by have:=Znw (p:=[]) (R:=nx) (P:=[]) (q:=q) hb;simpa using this,id,rfl⟩⟩
 rename_i hne;rw[Hj]at hx;split at hx
 ·simp at hx
 rename_i hne2;obtain⟨hr',hok'⟩:=h.roots r' x hx;refine⟨by omega,Keep.root' ⟨fun b o q hb=>⟨Wi hb fun k=>hne2 k.1.symm,rfl,rfl⟩,fun _ _ _=>rfl,fun q=>Cv pl nx _ r' q hr'⟩ (fun x v k=>k.agree fun r p hr=>Cv pl nx _ r p (by have:=h.ncle;omega)) hok'⟩
def Tg (g:Lab) (B nx r:Nat):Lab:=fun b o =>
 if b=B then some (nx,[]) else
 match g b o with
 | some (r',q)=>if r'=r/\q≠[] then some (nx,q) else some (r',q)
 | none=>none
theorem Hp.grow (h:Hp w0 own0 pl0 g pl roots nx nc fix w){r sz:Nat}{es:List (List D)}(hr:get roots r=some (.tr sz es)) (arr:Array Value) (t:TypeId) (cap:Nat) (hs:arr.size=cap*sz) (hcap:es.length<=cap)
  (hcp:∀j v,j<es.length*sz->w.cell? ⟨(pl r []).b,(pl r []).off+j,none⟩=some v->arr[j]? = some v) :
  Hp w0 own0 pl0 (Tg g w.heap.size nx r) (E1 pl nx fun q=>if q=[] then ⟨false,w.heap.size,0,cap,sz,none⟩ else pl r q) ((nx,.tr sz es)::del roots r) (nx+1) nc fix (w.alloc (.cells arr t)):=by
 obtain⟨hrn,hok⟩:=h.roots r _ hr;obtain⟨hc,hm⟩:=hok [] _ rfl;have hsz:=h.fr.size;have hgl:∀b o r' q,g b o=some (r',q)->¬(r'=r/\q≠[])->Tg g w.heap.size nx r b o=some (r',q):=by
  intro b o r' q hb hn;unfold Tg;rw[if_neg (h.lab_ne hb),hb];simp only[hn,if_false]
 have hgl2:∀b o q,g b o=some (r,q)->q≠[]->Tg g w.heap.size nx r b o=some (nx,q):=by
  intro b o q hb hn;unfold Tg;rw[if_neg (h.lab_ne hb),hb];simp [hn]
 have hcl:∀b o x,g b o=some x->(w.alloc (.cells arr t)).cell? ⟨b,o,none⟩=w.cell? ⟨b,o,none⟩/\(w.alloc (.cells arr t)).frozen? ⟨b,o,none⟩=w.frozen? ⟨b,o,none⟩:=fun b o x hb =>
  ⟨World.cell?_alloc_old w _ _ (by simpa using h.lab_ne hb),World.frozen?_alloc_old w _ _ (by simpa using h.lab_ne hb)⟩
 refine⟨h.fr.alloc _, ?_, ?_,by have:=h.fixle;omega,by have:=h.ncle;omega, ?_⟩
 ·intro b o x hx;unfold Tg at hx;split at hx
  ·rename_i hb;subst hb;simp only[Ka]at hx;subst hx;exact⟨by simp,.inl hsz,by simp⟩
  split at hx
  ·rename_i r' q hb;obtain⟨a,b',c'⟩:=h.lab b o _ hb;simp only at c';split at hx
   ·simp only[Ka]at hx;subst hx;exact⟨by simp;omega,b',by simp⟩
   simp only[Ka]at hx;subst hx;exact⟨by simp;omega,b',by simp only;omega⟩
  simp at hx
 ·intro r' q hr';rw[Cv pl nx _ r' q (by have:=h.fixle;omega)];exact h.fixed r' q hr'
 intro r' x hx;simp only[get]at hx;split at hx
 ·rename_i e';subst e';simp only[Ka]at hx;subst hx;refine⟨by omega, ?_⟩;intro q m hq;by_cases hq0:q=[]
  ·subst hq0;simp only[Am,Ka]at hq;subst hq;have hp0:=Cd pl nx (fun q=>if q=[] then ⟨false,w.heap.size,0,cap,sz,none⟩ else pl r q) [];simp only[if_true]at hp0;refine⟨⟨by rw[hp0],by rw[hp0];exact hcap,by rw[hp0];simp,hc.szs, ?_⟩, ?_⟩
   ·intro i e c d he hd;obtain⟨v,hv,hdv⟩:=hc.cells i e c d he hd;have hb:=hc.bound he hd;refine⟨v, ?_, ?_⟩
    ·rw[hp0];simp only[Kr];rw[World.cell?_alloc_new];exact hcp _ v hb.2.2.2 hv
    rw[Cd];simp only[Km,Kff,if_false];exact hdv
   intro j hj;rw[hp0]at hj ⊢;simp only at hj ⊢;refine⟨by simp [Tg], ?_,by simp⟩;have:0+j<arr.size:=by omega
   exact⟨arr[0+j],by simp [this]⟩
  obtain⟨a,b⟩:=hok q m hq;have hpq:E1 pl nx (fun q=>if q=[] then ⟨false,w.heap.size,0,cap,sz,none⟩ else pl r q) nx q=pl r q:=by rw[Cd,if_neg hq0]
  refine⟨a.move hpq (fun j k _ _ _ _=>by rw[Cd,if_neg (by simp)]) fun j hj=>?_,b.move hpq fun b o hb=>⟨hgl2 b o q hb hq0,fun ⟨z,hz⟩=>⟨z,by rw[(hcl _ _ _ hb).1];exact hz⟩,(hcl _ _ _ hb).2⟩⟩;exact (hcl _ _ _ (b.lab a (by have:=Kac m.1 a.le;omega))).1
 rename_i hne;rw[Hj]at hx;split at hx
 ·simp at hx
 rename_i hne2;obtain⟨hr',hok'⟩:=h.roots r' x hx;refine⟨by omega,Keep.root' ⟨fun b o q hb=>⟨hgl _ _ _ _ hb fun k=>hne2 k.1.symm,(hcl _ _ _ hb).1,(hcl _ _ _ hb).2⟩,fun b o hst=>?_,fun q=>Cv pl nx _ r' q hr'⟩ (fun x v k=>k.agree fun r p hr=>Cv pl nx _ r p (by have:=h.ncle;omega)) hok'⟩;exact World.cell?_alloc_old w _ _ (by simp;have:=hst.1;omega)
end
end Go.Vs
namespace Go.Vs
variable [Glb]
section
variable {w0:World} {own0:Nat->Nat->Prop} {pl0:Pls} {g:Lab} {pl:Pls} {roots:List (Nat×Root)} {nx nc fix:Nat} {w:World}
theorem Hp.detach (h:Hp w0 own0 pl0 g pl roots nx nc fix w){r:Nat}{p:Af}{sz n sz0:Nat}{es:List (List D)}(hr:get roots r=some (.tr sz0 es)){es1:List (List D)}(hp:Am sz0 es p=some (sz,es1)) :
  Hp w0 own0 pl0 (L6 g r p nx []) (E1 pl nx fun q=>pl r (p++q)) ((nx,.tr sz (es1.take n))::Et roots r p) (nx+1) nc fix w:=by
 obtain⟨hrn,hokr⟩:=h.roots r _ hr;refine⟨h.fr, ?_, ?_,by have:=h.fixle;omega,by have:=h.ncle;omega, ?_⟩
 ·intro b o x hx;obtain⟨y,hy,hxy⟩:=Znx hx;obtain⟨a,b',c'⟩:=h.lab b o y hy;refine⟨a,b', ?_⟩;rcases hxy with e|rfl
  ·rw[e];omega
  omega
 ·intro r' q hr';rw[Cv pl nx _ r' q (by have:=h.fixle;omega)];exact h.fixed r' q hr'
 intro r' x hx;simp only[get]at hx;split at hx
 ·rename_i e';subst e';simp only[Ka]at hx;subst hx;refine⟨by omega, ?_⟩;intro q m hq;have hold:NodeC w pl r (p++q) m.1 m.2/\N2 w g pl r (p++q):=by
   rcases Ycj hq with ⟨rfl,rfl⟩|⟨_,hn''⟩
   ·obtain⟨a,b⟩:=hokr p _ hp;rw[Kw];exact⟨a.take n,b⟩
   exact hokr (p++q) m (by rw[Nc,hp];exact hn'')
  refine⟨hold.1.move (Cd ..) (fun j k _ _ _ _=>?_) fun j hj=>rfl,hold.2.move (Cd ..) fun b o hb'=>⟨?_,id,rfl⟩⟩
  ·rw[Cd,Kva]
  have:=Znw (R:=nx) (P:=[]) hb';simpa using this
 by_cases hrr:r'=r
 ·subst hrr;obtain⟨es',rfl,hall⟩:=Zto h hr hp hx;refine⟨by omega, ?_⟩;intro q m hq;obtain⟨a,b,hnp⟩:=hall q m hq;exact⟨a.move (Cv _ _ _ _ _ hrn) (fun _ _ _ _ _ _=>Cv _ _ _ _ _ hrn) fun _ _=>rfl,b.move (Cv _ _ _ _ _ hrn) fun b o hb'=>⟨Wi hb' fun k=>hnp k.2,id,rfl⟩⟩
 rw[Vm hrr]at hx;obtain⟨hr',hok'⟩:=h.roots r' x hx;exact⟨by omega,Keep.root' ⟨fun b o q hb=>⟨Wi hb fun k=>hrr k.1,rfl,rfl⟩,fun _ _ _=>rfl,fun q=>Cv _ _ _ _ _ hr'⟩ (fun x v k=>k.agree fun r p hr=>Cv pl nx _ r p (by have:=h.ncle;omega)) hok'⟩
theorem Hp.trim (h:Hp w0 own0 pl0 g pl roots nx nc fix w){n:Nat}(hn:nc<=n) (hf:fix<=n) (hr:∀r x,get roots r=some x->r<n) :
  Hp w0 own0 pl0 (fun b o=>(g b o).bind fun x=>if x.1<n then some x else none) pl roots n nc fix w:=by
 refine⟨h.fr, ?_,h.fixed,hf,hn, ?_⟩
 ·intro b o x hx;simp only[Kg]at hx;obtain⟨y,hy,hx⟩:=hx;split at hx
  ·rename_i hlt;simp only[Ka]at hx;subst hx;obtain⟨a,b',_⟩:=h.lab b o y hy;exact⟨a,b',hlt⟩
  simp at hx
 intro r x hx;obtain⟨hr',hok'⟩:=h.roots r x hx;have hrn:=hr r x hx;refine⟨hrn,Keep.root' ⟨fun b o q hb=>⟨?_,rfl,rfl⟩,fun _ _ _=>rfl,fun _=>rfl⟩ (fun _ _ k=>k) hok'⟩;simp [hb,hrn]
def Qx:D->D
 | .lf v=>.lf v
 | _=>.hole
def M1 (lo m:Nat) (l:List (List D)):List (List D):=l.take lo++(((l.drop lo).take m).map (·.map Qx)++l.drop (lo+m))
theorem Zf5 {lo m:Nat}{l:List (List D)}(hm:lo+m<=l.length) (i:Nat) :
  (M1 lo m l)[i]? = if lo<=i/\i<lo+m then (l[i]?).map (·.map Qx) else l[i]?:=by
 unfold M1;by_cases h1:i<lo
 ·rw[Ksa (by simp;omega),Kwa,if_pos h1,if_neg (by omega)]
 rw[Kia (by simp;omega)];have e1:(l.take lo).length=lo:=by simp;omega
 rw[e1];by_cases h2:i<lo+m
 ·rw[Ksa (by simp;omega),if_pos ⟨by omega,h2⟩];simp only[Kba,Kwa,Kdb];rw[if_pos (by omega),show lo+(i-lo)=i by omega]
 rw[Kia (by simp;omega),if_neg (by omega)];have e2:(((l.drop lo).take m).map (·.map Qx)).length=m:=by simp;omega
 rw[e2,Kdb];congr 1;omega
theorem Zwh {lo m:Nat}{l:List (List D)}(hm:lo+m<=l.length):(M1 lo m l).length=l.length:=by simp [M1];omega
def O0 (g:Lab) (ry:Nat) (py:Af) (lo m R k0:Nat):Lab:=fun b o =>
 match g b o with
 | some (r',q)=>if r'=ry/\py <+: q then
   match q.drop py.length with
   | (i,c)::q'=>if lo<=i/\i<lo+m then some (R,(k0+(i-lo),c)::q') else some (r',q)
   | []=>some (r',q)
  else some (r',q)
 | none=>none
def Ig (pl:Pls) (ry:Nat) (py:Af) (lo R k0:Nat):Pls:=fun r q =>
 if r=R then match q with
  | (i,c)::q'=>if k0<=i then pl ry (py++(lo+(i-k0),c)::q') else pl r q
  | []=>pl r q
 else pl r q
theorem Yqt {g:Lab}{ry:Nat}{py:Af}{lo m R k0:Nat}{b o i c:Nat}{q:Af}(h:g b o=some (ry,py++(lo+i,c)::q)) (hi:i<m):O0 g ry py lo m R k0 b o=some (R,(k0+i,c)::q):=by
 unfold O0;rw[h];simp only[true_and,Kfe,if_true,Kge];rw[if_pos ⟨by omega,by omega⟩];congr 4;omega
theorem Znu {g:Lab}{ry:Nat}{py:Af}{lo m R k0:Nat}{b o r':Nat}{q:Af}(h:g b o=some (r',q)) (hn:r'≠ry):O0 g ry py lo m R k0 b o=some (r',q):=by
 unfold O0;rw[h];simp only[hn,false_and,if_false]
theorem Znv {g:Lab}{ry:Nat}{py:Af}{lo m R k0:Nat}{b o:Nat}{q:Af}(h:g b o=some (ry,q)) (hn:∀i c q',lo<=i->i<lo+m->q≠py++(i,c)::q'):O0 g ry py lo m R k0 b o=some (ry,q):=by
 unfold O0;rw[h];simp only[true_and];split
 ·rename_i hpre;obtain⟨s,rfl⟩:=hpre;rw[Kge];cases s with
  | nil=>rfl
  | cons a s =>
   obtain⟨i,c⟩:=a;simp only;rw[if_neg];rintro ⟨h1,h2⟩;exact hn i c s h1 h2 rfl
 rfl
theorem Yqu {g:Lab}{ry:Nat}{py:Af}{lo m R k0:Nat}{b o:Nat}{x:Nat×Af}(h:O0 g ry py lo m R k0 b o=some x):∃y,g b o=some y/\(x.1=R\/x=y):=by
 unfold O0 at h;split at h
 ·rename_i r' q hg;refine⟨_,hg, ?_⟩;split at h
  ·split at h
   ·split at h
    ·simp only[Ka]at h;subst h;exact .inl rfl
    simp only[Ka]at h;exact .inr h.symm
   simp only[Ka]at h;exact .inr h.symm
  simp only[Ka]at h;exact .inr h.symm
 simp at h
theorem Hp.extendMove (h:Hp w0 own0 pl0 g pl roots nx nc fix w){R sz:Nat}{es:List (List D)}(hR:get roots R=some (.tr sz es)) (hfix:fix<=R) (hnc:nc<=R)
  {ry:Nat} (hne:ry≠R) {py:Af} {sz0:Nat} {es0:List (List D)} (hry:get roots ry=some (.tr sz0 es0)) {l:List (List D)} (hpy:Am sz0 es0 py=some (sz,l)) {lo m:Nat} (hlm:lo+m<=l.length)
  (hle:es.length+m<=(pl R []).cap)
  (hN:∀(i c:Nat) (v:Value),i<m->c<sz->w.cell? ⟨(pl ry py).b,(pl ry py).off+((lo+i)*sz+c),none⟩=some v->w.cell? ⟨(pl R []).b,(pl R []).off+((es.length+i)*sz+c),none⟩=some v) :
  Hp w0 own0 pl0 (O0 g ry py lo m R es.length) (Ig pl ry py lo R es.length)
   (put (put roots ry (.tr sz0 (D0 es0 py (M1 lo m)))) R (.tr sz (es++(l.drop lo).take m))) nx nc fix w:=by
 obtain⟨hRn,hokR⟩:=h.roots R _ hR;obtain⟨hryn,hoky⟩:=h.roots ry _ hry;obtain⟨hc,hm⟩:=hokR [] _ rfl;obtain⟨hcy,hmy⟩:=hoky py _ hpy;have hplR:∀i c q',i<es.length->Ig pl ry py lo R es.length R ((i,c)::q')=pl R ((i,c)::q'):=by
  intro i c q' hi;unfold Ig;simp [show ¬es.length<=i by omega]
 have hplR0:Ig pl ry py lo R es.length R []=pl R []:=by unfold Ig;simp
 have hplRy:∀i c q',Ig pl ry py lo R es.length R ((es.length+i,c)::q')=pl ry (py++(lo+i,c)::q'):=by
  intro i c q';unfold Ig;simp
 have hplo:∀r q,r≠R->Ig pl ry py lo R es.length r q=pl r q:=by
  intro r q hr;unfold Ig;simp [hr]
 refine⟨h.fr, ?_, ?_,h.fixle,h.ncle, ?_⟩
 ·intro b o x hx;obtain⟨y,hy,hxy⟩:=Yqu hx;obtain⟨a,b',c'⟩:=h.lab b o y hy;refine⟨a,b', ?_⟩;rcases hxy with e|rfl
  ·rw[e];exact hRn
  exact c'
 ·intro r' q hr';rw[hplo _ _ (by omega)];exact h.fixed r' q hr'
 intro r' x hx;rw[Ax]at hx;split at hx
 ·rename_i e';subst e';simp only[Ka]at hx;subst hx;refine⟨hRn, ?_⟩;intro q n hq;cases q with
  | nil =>
   simp only[Am,Ka]at hq;subst hq;refine⟨⟨by rw[hplR0];exact hc.szp,by rw[hplR0];simp;omega,by rw[hplR0];exact hc.nil, ?_, ?_⟩,hm.move hplR0 fun b o hb=>⟨Znu hb (fun e=>hne e.symm),id,rfl⟩⟩
   ·intro e he;simp only[Kca]at he;rcases he with he|he
    ·exact hc.szs e he
    exact hcy.szs e (Kkb (Kjb he))
   intro i e c d he hd;rw[hplR0];by_cases hi:i<es.length
   ·rw[Ksa hi]at he;obtain⟨v,hv,hdv⟩:=hc.cells i e c d he hd;exact⟨v,hv,by rw[Km,hplR i c [] hi];exact hdv⟩
   rw[Kia (by omega)]at he;have hlt:=getElem?_lt he;simp only[Kua,Kma]at hlt;have he':=Mz rfl _ _ he;obtain⟨v,hv,hdv⟩:=hcy.cells _ e c d he' hd;have hb:=hcy.bound he' hd;have:=hN (i-es.length) c v (by omega) hb.2.1 hv;rw[show es.length+(i-es.length)=i by omega]at this;refine⟨v,this, ?_⟩;have e2:=hplRy (i-es.length) c [];rw[show es.length+(i-es.length)=i by omega]at e2;rw[Km,e2];exact hdv
  | cons a q =>
   obtain⟨i,c⟩:=a;unfold Am at hq;by_cases hi:i<es.length
   ·rw[Ksa hi]at hq;obtain⟨a,b⟩:=hokR ((i,c)::q) n (by unfold Am;exact hq);exact⟨a.move (hplR i c q hi) (fun j k _ _ _ _=>hplR i c _ hi) fun _ _=>rfl,b.move (hplR i c q hi) fun b o hb=>⟨Znu hb (fun e=>hne e.symm),id,rfl⟩⟩
   rw[Kia (by omega)]at hq;split at hq
   ·rename_i sz' es' hb;simp only[Kg]at hb;obtain⟨e,he,hd⟩:=hb;have hlt:=getElem?_lt he;simp only[Kua,Kma]at hlt;have he':=Mz rfl _ _ he;obtain⟨a,b⟩:=hoky (py++(lo+(i-es.length),c)::q) n (by
     rw[Nc,hpy];simp only[Kra,Am,he',hd];exact hq)
    have e2:∀s,Ig pl ry py lo R es.length R ((i,c)::s)=pl ry (py++(lo+(i-es.length),c)::s):=by
     intro s;have:=hplRy (i-es.length) c s
     rwa [show es.length+(i-es.length)=i by omega]at this
    refine⟨a.move (e2 q) (fun j k _ _ _ _=>?_) fun _ _=>rfl,b.move (e2 q) fun b o hb=>⟨?_,id,rfl⟩⟩
    ·have:=e2 (q++[(j,k)]);simpa using this
    have:=Yqt (R:=R) (k0:=es.length) hb (show i-es.length<m by omega)
    rwa [show es.length+(i-es.length)=i by omega]at this
   simp at hq
 rename_i hneR;rw[Ax]at hx;split at hx
 ·rename_i e';subst e';simp only[Ka]at hx;subst hx;refine⟨hryn, ?_⟩;intro q n hq;have hpr:∀q,Ig pl ry py lo R es.length ry q=pl ry q:=fun q=>hplo _ _ hne;rcases Ziz (f:=M1 lo m) hpy (Zwh hlm) q n hq with ⟨q',rfl,hn'⟩|⟨m0,h1,h2,h3,h4⟩
  ·cases q' with
   | nil =>
    simp only[Am,Ka]at hn';subst hn';rw[Kw];refine⟨⟨by rw[hpr];exact hcy.szp,by rw[hpr,Zwh hlm];exact hcy.le,by rw[hpr];exact hcy.nil, ?_, ?_⟩,hmy.move (hpr _) fun b o hb=>⟨Znv hb fun i c q' _ _ e=>?_,id,rfl⟩⟩
    ·intro e he;obtain⟨i,hi⟩:=Klc he;rw[Zf5 hlm]at hi;split at hi
     ·simp only[Ks]at hi;obtain⟨x,hx,rfl⟩:=hi;simpa using hcy.szs x (Kaa hx)
     exact hcy.szs e (Kaa hi)
    ·intro i e c d he hd;rw[hpr,hpr];rw[Zf5 hlm]at he;split at he
     ·simp only[Ks]at he;obtain⟨x,hx,rfl⟩:=he;simp only[Kba,Ks]at hd;obtain⟨y,hy,rfl⟩:=hd;obtain⟨v,hv,hdv⟩:=hcy.cells i x c y hx hy;refine⟨v,hv, ?_⟩;cases y with
      | lf x=>exact hdv
      | _=>exact hdv.one
     exact hcy.cells i e c d he hd
    have:=congrArg List.length e;simp at this
   | cons a q' =>
    obtain⟨i,c⟩:=a;unfold Am at hn';by_cases hin:lo<=i/\i<lo+m
    ·exfalso;rw[Zf5 hlm,if_pos hin]at hn';split at hn'
     ·rename_i sz' es' hb;simp only[Kg,Ks]at hb;obtain⟨_,⟨e,he,rfl⟩,hd⟩:=hb;simp only[Kba,Ks]at hd;obtain⟨y,_,hd⟩:=hd;cases y<;>cases hd
     simp at hn'
    rw[Zf5 hlm,if_neg hin]at hn';obtain⟨a,b⟩:=hoky (py++(i,c)::q') n (by rw[Nc,hpy];unfold Am;exact hn');refine⟨a.move (hpr _) (fun _ _ _ _ _ _=>hpr _) fun _ _=>rfl,b.move (hpr _) fun b o hb=>⟨Znv hb fun j c' q'' h1 h2 e=>?_,id,rfl⟩⟩;rw[List.append_cancel_left_eq,List.cons.injEq,Kb]at e;obtain⟨⟨rfl,_⟩,_⟩:=e;exact hin ⟨h1,h2⟩
  obtain⟨a,b⟩:=hoky q m0 h1;rw[h3];refine⟨(a.sim h4).move (hpr _) (fun _ _ _ _ _ _=>hpr _) fun _ _=>rfl,b.move (hpr _) fun b o hb=>⟨Znv hb fun j c' q'' _ _ e=>?_,id,rfl⟩⟩;rw[e]at h2;exact h2 (Kfe _ _)
 rename_i hney;obtain⟨hr',hok'⟩:=h.roots r' x hx;refine⟨hr',Keep.root' ⟨fun b o q hb=>⟨Znu hb (fun e=>hney e.symm),rfl,rfl⟩,fun _ _ _=>rfl,fun q=>hplo _ _ (fun e=>hneR e.symm)⟩ (fun x v k=>k.agree fun r p hr=>hplo _ _ (by omega)) hok'⟩
end
end Go.Vs
namespace Go.Vs
variable [Glb]
def Ew (r:Nat) (pre:Af):C->C
 | .rf r' q sz lo n=>if r'=r/\pre <+: q then .un else .rf r' q sz lo n
 | .pe r' q i c=>if r'=r/\pre <+: q then .un else .pe r' q i c
 | x=>x
def A7:List (Nat×Af)->C->C
 | [],x=>x
 | k::ks,x=>A7 ks (Ew k.1 k.2 x)
def A.map (k:C->C):A->A
 | .c x=>.c (k x)
 | .ag cs=>.ag (cs.map k)
def V.map (k:C->C):V->V
 | .un=>.un
 | .a x=>.a (x.map k)
 | .tp xs=>.tp (xs.map (A.map k))
 | .fn f caps=>.fn f (caps.map (A.map k))
 | .sb r n=>match k (.pb r 0) with
  | .pb r' 0=>.sb r' n
  | _=>.un
def Tf (r:Nat) (pre:Af) (roots:List (Nat×Root)):List (Nat×Root):=roots.map fun x=>(x.1,x.2.map (Ew r pre))
def C0 (ks:List (Nat×Af)) (env:List (Nat×V)):List (Nat×V) :=
 match ks with
 | []=>env
 | k::ks=>C0 ks (env.map fun x=>(x.1,x.2.map (Ew k.1 k.2)))
def Dh (roots:List (Nat×Root)):C->Option (D×List (Nat×Root))
 | .lf v=>some (.lf v,roots)
 | .nl sz=>some (.sl sz [],roots)
 | .rf r p sz 0 n =>
  match get roots r with
  | some (.tr sz0 es)=>match Am sz0 es p with
   | some (sz',es1)=>if sz'=sz/\n<=es1.length then some (.sl sz (es1.take n),Et roots r p) else none
   | none=>none
  | _=>none
 | _=>none
def Cx:List (Nat×Root)->List C->Option (List D×List (Nat×Root))
 | roots,[]=>some ([],roots)
 | roots,c::cs =>
  match Dh roots c with
  | some (d,roots1)=>match Cx roots1 cs with
   | some (ds,roots2)=>some (d::ds,roots2)
   | none=>none
  | none=>none
def Ok (sz0:Nat) (es:List (List D)) (p:Af) (i c:Nat):Bool :=
 match (Am sz0 es p).bind (·.2[i]?) with
 | some e=>decide (c<e.length)
 | none=>false
def Hw (fix r:Nat) (p:Af) (i:Nat):List C->List (Nat×Root)->Nat->List (Nat×Af)->Option (List (Nat×Root)×List (Nat×Af))
 | [],roots,_,ks=>some (roots,ks)
 | y::ys,roots,c,ks =>
  match A7 ks y with
  | .lf u=>match get roots r with
   | some (.tr sz0 es)=>Hw fix r p i ys (put roots r (.tr sz0 (Dg es p i c (.lf u)))) (c+1) ks
   | _=>none
  | y=>match Dh roots y with
   | some (d,roots1)=>match get roots1 r with
    | some (.tr sz0 es)=>if fix<=r/\Ok sz0 es p i (c+ys.length)=true then Hw fix r p i ys (put (Tf r (p++[(i,c)]) roots1) r (.tr sz0 (Dg es p i c d))) (c+1) (ks++[(r,p++[(i,c)])]) else none
    | _=>none
   | none=>none
def E7 {α:Type}(sz:Nat):Nat->List α->List (List α)
 | 0,_=>[]
 | n+1,l=>l.take sz::E7 sz n (l.drop sz)
def Rs:C->D
 | .lf v=>.lf v
 | .nl sz=>.sl sz []
 | _=>.hole
def Zi4:C->D
 | .lf v=>.lf v
 | _=>.hole
def Tt:C->Bool
 | .lf _=>true
 | .nl _=>true
 | _=>false
def rep {α:Type}(n:Nat) (l:List α):List α :=
 match n with
 | 0=>[]
 | n+1=>l++rep n l
def Zgg:D->Bool
 | .lf _=>true
 | _=>false
def Zj6 (E:List (List D)):Bool:=E.all (·.all Zgg)
def Jb (s:ByteArray):List (List D):=s.data.toList.map fun b=>[.lf (.int .u8 b.toNat)]
def Sf (roots:List (Nat×Root)):V->Option (Nat×List (List D)×Option Nat)
 | .a (.c (.nl sz))=>some (sz,[],none)
 | .a (.c (.rf r [] sz 0 n))=>match get roots r with
  | some (.tr sz0 es)=>if sz0=sz/\n=es.length then some (sz,es,some r) else none
  | _=>none
 | _=>none
def D4 (roots:List (Nat×Root)):Option Nat->List (Nat×Root)
 | none=>roots
 | some r=>del roots r
def wr (S:St) (K:V->List (Nat×Af)->List (Nat×Root)->Nat->Prop):W->Prop
 | .alloc zero=>K (.a (.c (.pb S.next 0))) [] ((S.next,.bx zero)::S.roots) (S.next+1)
 | .box x=>∃ys,Qb (S.opd x)=some ys/\K (.a (.c (.pb S.next 0))) [] ((S.next,.bx ys)::S.roots) (S.next+1)
 | .store n x v=>match S.opd x with
  | .a (.c (.pb r c))=>∃ys,Qb (S.opd v)=some ys/\ys.length=n/\∃cs,get S.roots r=some (.bx cs)/\c+n<=cs.length/\K .un [] (put S.roots r (.bx (cs.take c++(ys++cs.drop (c+n))))) S.next
  | .a (.c (.pe r p i c))=>∃ys,Qb (S.opd v)=some ys/\ys.length=n/\∃e,((S.node r p).bind (·.2[i]?))=some e/\c+n<=e.length/\(∃sz0 es,get S.roots r=some (.tr sz0 es))/\∃res,Hw S.fix r p i ys S.roots c []=some res/\K .un res.2 res.1 S.next
  | _=>False
 | .mks sz bytes zero l c=>match S.opd l,S.opd c with
  | .a (.c (.lf (.int _ z))),.a (.c (.lf (.int _ z')))=>z'=z/\0<=z/\z*bytes<=140737488355328/\z<=9223372036854775807/\zero.all Tt=true/\K (.a (.c (.rf S.next [] sz 0 z.toNat))) [] ((S.next,.tr sz (List.replicate z.toNat (zero.map Rs)))::S.roots) (S.next+1)
  | _,_=>False
 | .lit sz len zero parts=>(∃cs,Hh S (rep len zero) (parts.map fun x=>(x.1*sz,sz,x.2))=some cs/\∃ds,Cx S.roots cs=some ds/\K (.a (.c (.rf S.next [] sz 0 len))) [] ((S.next,.tr sz (E7 sz len ds.1))::ds.2) (S.next+1)) \/
   (∃cs,Hh S (rep len zero) (parts.map fun x=>(x.1*sz,sz,x.2))=some cs/\K (.sb S.next len) [] ((S.next,.bx cs)::S.roots) (S.next+1))
 | .s2b x=>match S.opd x with
  | .a (.c (.lf (.string s)))=>K (.a (.c (.rf S.next [] 1 0 s.size))) [] ((S.next,.tr 1 (Jb s))::S.roots) (S.next+1)
  | _=>False
 | .app sz bytes _ x y=>∃b,Sf S.roots (S.opd x)=some b/\b.1=sz/\match S.opd y with
  | .a (.c (.nl _))=>b.2.1.length*bytes<=140737488355328/\K (.a (.c (.rf S.next [] sz 0 b.2.1.length))) [] ((S.next,.tr sz b.2.1)::D4 S.roots b.2.2) (S.next+1)
  | .a (.c (.rf ry py sz' lo m))=>sz'=sz/\some ry≠b.2.2/\(b.2.1.length+m)*bytes<=140737488355328/\∃l,S.node ry py=some (sz,l)/\lo+m<=l.length /\
    ((Zj6 ((l.drop lo).take m)=true/\K (.a (.c (.rf S.next [] sz 0 (b.2.1.length+m)))) [] ((S.next,.tr sz (b.2.1++(l.drop lo).take m))::D4 S.roots b.2.2) (S.next+1)) \/
     (∃sz0 es0,get S.roots ry=some (.tr sz0 es0)/\K (.a (.c (.rf S.next [] sz 0 (b.2.1.length+m)))) [] ((S.next,.tr sz (b.2.1++(l.drop lo).take m))::put (D4 S.roots b.2.2) ry (.tr sz0 (D0 es0 py (M1 lo m)))) (S.next+1)))
  | _=>False
 | .aps _ x y=>∃b,Sf S.roots (S.opd x)=some b/\b.1=1/\match S.opd y with
  | .a (.c (.lf (.string s)))=>b.2.1.length+s.size<=140737488355328/\K (.a (.c (.rf S.next [] 1 0 (b.2.1.length+s.size)))) [] ((S.next,.tr 1 (b.2.1++Jb s))::D4 S.roots b.2.2) (S.next+1)
  | _=>False
 | .clr sz zero x=>match S.opd x with
  | .a (.c (.rf r [] sz' lo n))=>sz'=sz/\∃es,get S.roots r=some (.tr sz es)/\lo+n=es.length/\K .un [] (put S.roots r (.tr sz (es.take lo++List.replicate n (zero.map Zi4)))) S.next
  | .a (.c (.nl _))=>K .un [] S.roots S.next
  | _=>False
 | _=>False
end Go.Vs
namespace Go.Vs
variable [Glb]
def Zii (N:List (List D)) (i c:Nat):Nat :=
 match (N[i]?).bind (·[c]?) with
 | some (.sl s _)=>s
 | _=>0
def plZ (pl:Pls) (R:Nat) (N:List (List D)) (k0:Nat):Pls:=fun r q =>
 if r=R then match q with
  | (i,c)::_=>if k0<=i then ⟨true,0,0,0,Zii N (i-k0) c,none⟩ else pl r q
  | []=>pl r q
 else pl r q
section
variable {w0:World} {own0:Nat->Nat->Prop} {pl0:Pls} {g:Lab} {pl:Pls} {roots:List (Nat×Root)} {nx nc fix:Nat} {w:World}
theorem Hp.extendZ (h:Hp w0 own0 pl0 g pl roots nx nc fix w){r sz:Nat}{es:List (List D)}(hr:get roots r=some (.tr sz es)) (hfix:fix<=r) (hnc:nc<=r) (N:List (List D)) (hsz:∀e∈N,e.length=sz) (hle:es.length+N.length<=(pl r []).cap)
  (hN:∀(i:Nat) (e:List D) (c:Nat) (d:D),N[i]? = some e->e[c]? = some d->∃v,w.cell? ⟨(pl r []).b,(pl r []).off+((es.length+i)*sz+c),none⟩=some v/\((d=.lf v/\v.oneCell'=true)\/(∃s,d=.sl s []/\v=.slice none 0 0))) :
  Hp w0 own0 pl0 g (plZ pl r N es.length) (put roots r (.tr sz (es++N))) nx nc fix w:=by
 obtain⟨hrn,hok⟩:=h.roots r _ hr;obtain⟨hc,hm⟩:=hok [] _ rfl;have hp1:∀i c q',i<es.length->plZ pl r N es.length r ((i,c)::q')=pl r ((i,c)::q'):=by
  intro i c q' hi;unfold plZ;simp [show ¬es.length<=i by omega]
 have hp0:plZ pl r N es.length r []=pl r []:=by unfold plZ;simp
 have hp2:∀i c q',es.length<=i->plZ pl r N es.length r ((i,c)::q')=⟨true,0,0,0,Zii N (i-es.length) c,none⟩:=by
  intro i c q' hi;unfold plZ;simp [hi]
 have hpo:∀r' q,r'≠r->plZ pl r N es.length r' q=pl r' q:=by
  intro r' q hr';unfold plZ;simp [hr']
 refine⟨h.fr,h.lab, ?_,h.fixle,h.ncle, ?_⟩
 ·intro r' q hr';rw[hpo _ _ (by omega)];exact h.fixed r' q hr'
 intro r' x hx;rw[Ax]at hx;split at hx
 ·rename_i e';subst e';simp only[Ka]at hx;subst hx;refine⟨hrn, ?_⟩;intro q m hq;cases q with
  | nil =>
   simp only[Am,Ka]at hq;subst hq;refine⟨⟨by rw[hp0];exact hc.szp,by rw[hp0];simpa using hle,by rw[hp0];exact hc.nil, ?_, ?_⟩,hm.move hp0 fun b o hb=>⟨hb,id,rfl⟩⟩
   ·intro e he;simp only[Kca]at he;rcases he with he|he
    ·exact hc.szs e he
    exact hsz e he
   intro i e c d he hd;rw[hp0];by_cases hi:i<es.length
   ·rw[Ksa hi]at he;obtain⟨v,hv,hdv⟩:=hc.cells i e c d he hd;exact⟨v,hv,by rw[Km,hp1 i c [] hi];exact hdv⟩
   rw[Kia (by omega)]at he;obtain⟨v,hv,hk⟩:=hN _ e c d he hd;rw[show es.length+(i-es.length)=i by omega]at hv;refine⟨v,hv, ?_⟩;rw[Km,hp2 i c [] (by omega)];rcases hk with ⟨rfl,h1⟩|⟨s,rfl,rfl⟩
   ·exact⟨rfl,h1⟩
   refine⟨?_,rfl⟩;simp [Zii,he,hd]
  | cons a q =>
   obtain⟨i,c⟩:=a;unfold Am at hq;by_cases hi:i<es.length
   ·rw[Ksa hi]at hq;obtain⟨a,b⟩:=hok ((i,c)::q) m (by unfold Am;exact hq);exact⟨a.move (hp1 i c q hi) (fun j k _ _ _ _=>hp1 i c _ hi) fun _ _=>rfl,b.move (hp1 i c q hi) fun b o hb=>⟨hb,id,rfl⟩⟩
   rw[Kia (by omega)]at hq;split at hq
   ·rename_i sz' es' hb;simp only[Kg]at hb;obtain⟨e,he,hd⟩:=hb;obtain⟨v,hv,hk⟩:=hN _ e c _ he hd;rcases hk with ⟨hbad,_⟩|⟨s,hs,rfl⟩
    ·cases hbad
    simp only[D.sl.injEq]at hs;obtain⟨rfl,rfl⟩:=hs;cases q with
    | nil =>
     simp only[Am,Ka]at hq;subst hq;have hz:=hp2 i c [] (by omega);refine⟨⟨by rw[hz];simp [Zii,he,hd],by rw[hz];simp,by rw[hz];simp,by simp,by simp⟩, ?_⟩;intro j hj;rw[hz]at hj;simp at hj
    | cons a q=>obtain⟨j,k⟩:=a;simp [Am]at hq
   simp at hq
 rename_i hne;obtain⟨hr',hok'⟩:=h.roots r' x hx;exact⟨hr',Keep.root' ⟨fun b o q hb=>⟨hb,rfl,rfl⟩,fun _ _ _=>rfl,fun q=>hpo _ _ (fun e=>hne e.symm)⟩ (fun x v k=>k.agree fun r p hr=>hpo _ _ (by omega)) hok'⟩
theorem Za2 {N:List (List D)}{R k0:Nat}(h:nc<=R):Es nc pl (plZ pl R N k0):=fun r p hr=>by unfold plZ;rw[if_neg (by omega)]
theorem Za3 {N:List (List D)}{R k0 r:Nat}:plZ pl R N k0 r []=pl r []:=by unfold plZ;split<;>rfl
end
variable {P:Program} {N:Nat} {w0:World} {own0:Nat->Nat->Prop} {pl0:Pls} {g:Lab} {pl:Pls} {S:St} {a:Act} {w:World} {K:V->List (Nat×Af)->List (Nat×Root)->Nat->Prop}
def N5 (P:Program) (w0:World) (own0:Nat->Nat->Prop) (pl0:Pls) (pl:Pls) (S:St) (K:V->List (Nat×Af)->List (Nat×Root)->Nat->Prop) (s:Sem Value) (w:World):Prop :=
 ∃v w' x ks roots nx g' pl',s.run P w=.ok v w'/\VR pl' nx x v/\Hp w0 own0 pl0 g' pl' roots nx nx S.fix w'/\(∀z u,CR pl S.next z u->CR pl' nx (A7 ks z) u)/\K x ks roots nx
theorem Py {s:Sem Value}{v:Value}{w':World}{x:C}{ks:List (Nat×Af)}{roots:List (Nat×Root)}{nx:Nat}{g':Lab}{pl':Pls}(hK:K (.a (.c x)) ks roots nx) (hr:s.run P w=.ok v w') (hx:CR pl' nx x v)
  (hp:Hp w0 own0 pl0 g' pl' roots nx nx S.fix w') (hk:∀z u,CR pl S.next z u->CR pl' nx (A7 ks z) u):N5 P w0 own0 pl0 pl S K s w:=⟨v,w',.a (.c x),ks,roots,nx,g',pl',hr,hx,hp,hk,hK⟩
theorem Yx4 (hR:Rel N w0 own0 pl0 g pl S a w){e:TypeId}{j:W}(ht:trW P (.alloc e)=some j) (h:wr S K j) :
  N5 P w0 own0 pl0 pl S K (Instr.alloc e true (.tuple #[])) w:=by
 simp only[trW,Kl,Kg,Ka]at ht;obtain⟨i,hi,z,hz,zc,hzc,rfl⟩:=ht;have hall:=Qc (pl:=pl) (nx:=S.next) hzc;have hb:=hR.hp.newBox zc z.cells.toList e hall;refine Py h (v:=.pointer (some ⟨w.heap.size,0,none⟩)) ?_ Hp.newBox_ptr hb.bump fun z u hk=>(hk.agree (Cv _ _ _)).mono (by omega);simp [Instr.alloc,zeroValue,typeInfo,hi,hz,newVar,newRow]
theorem Yx6 (hR:Rel N w0 own0 pl0 g pl S a w){e:TypeId}{x:Operand}{j:W}(ht:trW P (.box e x)=some j) (h:wr S K j) :
  N5 P w0 own0 pl0 pl S K (Instr.box e (a.eval x)) w:=by
 simp only[trW,Ks]at ht;obtain⟨y,hy,rfl⟩:=ht;obtain⟨ys,hys,hK⟩:=h;have hall:=Zex (Bk hR hy) hys;have hb:=hR.hp.newBox ys (a.eval x).cells.toList e hall;refine Py hK (v:=.pointer (some ⟨w.heap.size,0,none⟩)) ?_ Hp.newBox_ptr hb.bump fun z u hk=>(hk.agree (Cv _ _ _)).mono (by omega);simp [Instr.box,newVar,newRow]
theorem Zxc {nc r:Nat}{pre:Af}(hpre:pre≠[]){L:Af->Pl}{x:C}{u:Value}(h:CR pl nc x u):CR (Ic pl r pre L) nc (Ew r pre x) u:=by
 cases x with
 | rf r' q sz lo n =>
  by_cases hn:r'=r/\pre <+: q
  ·rw[show Ew r pre (.rf r' q sz lo n)=.un from if_pos hn];exact h.one
  rw[show Ew r pre (.rf r' q sz lo n)=.rf r' q sz lo n from if_neg hn];exact⟨h.1,by rw[Ie hn];exact h.2⟩
 | pe r' q i c =>
  by_cases hn:r'=r/\pre <+: q
  ·rw[show Ew r pre (.pe r' q i c)=.un from if_pos hn];exact h.one
  rw[show Ew r pre (.pe r' q i c)=.pe r' q i c from if_neg hn];exact⟨h.1,by rw[Ie hn];exact h.2⟩
 | pb r' c =>
  refine⟨h.1, ?_⟩;rw[Ie (by rintro ⟨_,hh⟩;exact hpre (List.prefix_nil.1 hh))];exact h.2
 | un=>exact h
 | nl sz=>exact h
 | lf v=>exact h
theorem Yqf (ks:List (Nat×Af)) (k:Nat×Af) (x:C):A7 (ks++[k]) x=Ew k.1 k.2 (A7 ks x):=by
 induction ks generalizing x with
 | nil=>rfl
 | cons a ks ih=>simp only[Kn,A7];exact ih _
theorem Yv5 {g:Lab}{pl:Pls}{roots:List (Nat×Root)}{nx nc fix:Nat}(h:Hp w0 own0 pl0 g pl roots nx nc fix w){r:Nat}{p:Af}{sz lo n:Nat}{v:Value}(hc:CR pl nc (.rf r p sz lo n) v){d:D}{roots1:List (Nat×Root)}(ht:Dh roots (.rf r p sz lo n)=some (d,roots1)) :
  ∃es g' pl',d=.sl sz es/\Hp w0 own0 pl0 g' pl' ((nx,.tr sz es)::roots1) (nx+1) nc fix w/\Es nx pl pl'/\Win (pl' nx []) sz 0 es.length v/\(∀r x,get roots1 r=some x->r<nx):=by
 unfold Dh at ht;split at ht
 ·rename_i heq;cases heq
 ·rename_i heq;cases heq
 ·rename_i heq;cases heq;split at ht
  ·rename_i sz0 es hr;split at ht
   ·rename_i sz' es1 hp;split at ht
    ·rename_i hcond;obtain⟨rfl,hn⟩:=hcond;simp only[Ka,Kb]at ht;obtain⟨rfl,rfl⟩:=ht;refine⟨es1.take n,_,_,rfl,h.detach (n:=n) hr hp,Cv _ _ _, ?_, ?_⟩
     ·rw[Cd,Kw,Kua,Kod hn];exact hc.2
     intro r' x hx;have hrn:=(h.roots _ _ hr).1;by_cases e:r'=r
     ·subst e;exact hrn
     rw[Vm e]at hx;exact (h.roots r' x hx).1
    simp at ht
   simp at ht
  simp at ht
 simp at ht
theorem Ych {g:Lab}{pl:Pls}{roots:List (Nat×Root)}{nx nc fix:Nat}(h:Hp w0 own0 pl0 g pl roots nx nc fix w){c:C}{v:Value}(hc:CR pl nc c v){d:D}{roots1:List (Nat×Root)}(ht:Dh roots c=some (d,roots1)) :
  (d=.lf v/\v.oneCell'=true/\roots1=roots)\/(∃sz,d=.sl sz []/\v=.slice none 0 0/\roots1=roots) \/
   (∃sz es g' pl',d=.sl sz es/\Hp w0 own0 pl0 g' pl' ((nx,.tr sz es)::roots1) (nx+1) nc fix w/\Es nx pl pl'/\Win (pl' nx []) sz 0 es.length v/\(∀r x,get roots1 r=some x->r<nx)):=by
 unfold Dh at ht;split at ht
 ·simp only[Ka,Kb]at ht;obtain⟨rfl,rfl⟩:=ht;obtain⟨rfl,h1⟩:=hc;exact .inl ⟨rfl,h1,rfl⟩
 ·simp only[Ka,Kb]at ht;obtain⟨rfl,rfl⟩:=ht;exact .inr (.inl ⟨_,rfl,hc,rfl⟩)
 ·rename_i r p sz n;split at ht
  ·rename_i sz0 es hr;split at ht
   ·rename_i sz' es1 hp;split at ht
    ·rename_i hcond;obtain⟨rfl,hn⟩:=hcond;simp only[Ka,Kb]at ht;obtain⟨rfl,rfl⟩:=ht;refine .inr (.inr ⟨sz',es1.take n,_,_,rfl,h.detach (n:=n) hr hp,Cv _ _ _, ?_, ?_⟩)
     ·rw[Cd,Kw,Kua,Kod hn];exact hc.2
     intro r' x hx;have hrn:=(h.roots r _ hr).1;by_cases e:r'=r
     ·subst e;exact hrn
     rw[Vm e]at hx;exact (h.roots r' x hx).1
    simp at ht
   simp at ht
  simp at ht
 simp at ht
end Go.Vs
namespace Go.Vs
variable [Glb]
variable {P:Program} {N:Nat} {w0:World} {own0:Nat->Nat->Prop} {pl0:Pls} {g:Lab} {pl:Pls} {S:St} {a:Act} {w:World} {K:V->List (Nat×Af)->List (Nat×Root)->Nat->Prop}
theorem Ybh {roots:List (Nat×Root)}{nx nc fix:Nat}{r:Nat}:∀(ys:List C) (vs:List Value) (cs:List C) (c:Nat) (w:World) (roots:List (Nat×Root)),Hp w0 own0 pl0 g pl roots nx nc fix w->get roots r=some (.bx cs)->c+ys.length<=cs.length->Ab (CR pl nc) ys vs ->
  ∃roots',Hp w0 own0 pl0 g pl roots' nx nc fix (Hv w (pl r []).b ((pl r []).off+c) vs)/\(∀t,get roots' t=get (put roots r (.bx (cs.take c++(ys++cs.drop (c+ys.length))))) t)
 | [],[],cs,c,w,roots,h,hr,hc,_=>by
  refine⟨roots,h,fun t=>?_⟩;rw[Ax];split
  ·rename_i e;subst e;simp [hr]
  rfl
 | y::ys,v::vs,cs,c,w,roots,h,hr,hc,hall=>by
  simp only[Kf]at hc;obtain⟨h1,_⟩:=h.setBox hr (show c<cs.length by omega) hall.1;obtain⟨roots',h2,h3⟩:=Ybh (roots:=roots) ys vs (cs.set c y) (c+1) _ _ h1 (by rw[Ax,if_pos rfl]) (by simp;omega) hall.2;refine⟨roots',by rw[Hv];exact h2,fun t=>?_⟩;rw[h3,Ax,Ax,Ax];split
  ·congr 2;apply Kzc;intro j;simp only[List.getElem?_append,Kua,Kee,Kwa,Kya,Kdb,List.getElem?_cons,Kf];have e3:min (c+1) cs.length=c+1:=by omega
   have e4:min c cs.length=c:=by omega
   rw[e3,e4];by_cases h1:j<c
   ·simp [h1,show j<c+1 by omega,show ¬c=j by omega]
   by_cases h2:j=c
   ·subst h2;simp [show j<cs.length by omega]
   have e1:¬j<c+1:=by omega
   simp only[e1,h1,if_false];have e5:j-c-1=j-(c+1):=by omega
   by_cases h4:j-(c+1)<ys.length
   ·simp [h4,show j-c<ys.length+1 by omega,show ¬(j-c=0) by omega,e5]
   simp only[h4,show ¬(j-c<ys.length+1) by omega,if_false];have e6:c+1+ys.length+(j-(c+1)-ys.length)=j:=by omega
   have e7:c+(ys.length+1)+(j-c-(ys.length+1))=j:=by omega
   rw[e6,e7,if_neg (by omega)]
  rfl
 | [],_::_,_,_,_,_,_,_,_,h=>h.elim
 | _::_,[],_,_,_,_,_,_,_,h=>h.elim
theorem Hp.roots_eq {roots roots':List (Nat×Root)}{nx nc fix:Nat}(h:Hp w0 own0 pl0 g pl roots nx nc fix w) (e:∀t,get roots' t=get roots t):Hp w0 own0 pl0 g pl roots' nx nc fix w :=
 ⟨h.fr,h.lab,h.fixed,h.fixle,h.ncle,fun r x hx=>h.roots r x (by rw[<-e];exact hx)⟩
theorem CR.killed {nc:Nat}{pl':Pls}{ks:List (Nat×Af)}(h:∀z u,CR pl nc z u->CR pl' nc (A7 ks z) u):∀{ys:List C}{vs:List Value},Ab (CR pl nc) ys vs->Ab (CR pl' nc) (ys.map (A7 ks)) vs
 | [],[],_=>trivial
 | _::_,_::_,k=>⟨h _ _ k.1,CR.killed h k.2⟩
 | [],_::_,k=>k.elim
 | _::_,[],k=>k.elim
end Go.Vs
namespace Go.Vs
variable [Glb]
variable {P:Program} {N:Nat} {w0:World} {own0:Nat->Nat->Prop} {pl0:Pls} {g:Lab} {pl:Pls} {S:St} {a:Act} {w:World} {K:V->List (Nat×Af)->List (Nat×Root)->Nat->Prop}
theorem Zyn {f:List (List D)->List (List D)}:∀{p:Af}{sz0:Nat}{es:List (List D)}{n:Nat×List (List D)},Am sz0 es p=some n->Am sz0 (D0 es p f) p=some (n.1,f n.2)
 | [],sz0,es,n,h=>by simp only[Am,Ka]at h;subst h;rfl
 | (i,c)::p,sz0,es,n,h=>by
  simp only[Am]at h;split at h
  ·rename_i sz' es' hcell;simp only[Kg]at hcell;obtain⟨e,he,hd⟩:=hcell;simp only[D0,he,hd];rw[Zom he hd];exact Zyn h
  simp at h
theorem Zg0 {sz0:Nat}{es:List (List D)}{p:Af}{n:Nat×List (List D)}(h:Am sz0 es p=some n){i:Nat}{e:List D}(he:n.2[i]? = some e) (c:Nat) (d:D) :
  ∃n',Am sz0 (Dg es p i c d) p=some n'/\n'.1=n.1/\n'.2[i]? = some (e.set c d):=by
 refine⟨_,Zyn h,rfl, ?_⟩;have h1:=getElem?_lt he;simp only[Fi,he];rw[Kya,if_pos rfl,if_pos h1]
theorem Ydn {f k:List (List D)->List (List D)}:∀{p:Af}{sz0:Nat}{es:List (List D)}{n:Nat×List (List D)},Am sz0 es p=some n->D0 (D0 es p f) p k=D0 es p fun l=>k (f l)
 | [],sz0,es,n,h=>rfl
 | (i,c)::p,sz0,es,n,h=>by
  simp only[Am]at h;split at h
  ·rename_i sz' es' hcell;simp only[Kg]at hcell;obtain⟨e,he,hd⟩:=hcell;have h1:=getElem?_lt he;have h2:=getElem?_lt hd;simp only[D0,he,hd];rw[Kya,if_pos rfl,if_pos h1];simp only;rw[Kya,if_pos rfl,if_pos h2];simp only;rw[Ydn h,Kad,Kad]
  simp at h
theorem Ybi {sz0:Nat}{es:List (List D)}{p:Af}{n:Nat×List (List D)}(h:Am sz0 es p=some n) (i c:Nat) (d d':D):Dg (Dg es p i c d) p i c d'=Dg es p i c d':=by
 unfold Dg;rw[Ydn h];congr 1;funext l;unfold Fi;cases hl:l[i]? with
 | none=>simp [hl]
 | some e =>
  have h1:=getElem?_lt hl;simp only;rw[Kya,if_pos rfl,if_pos h1];simp only[Kad]
theorem V3 (r:Nat) (pre:Af) (roots:List (Nat×Root)) (t:Nat):get (Tf r pre roots) t=(get roots t).map (Root.map (Ew r pre)):=S7 _ _ _
theorem Zqw {roots roots1:List (Nat×Root)}{c:C}{d:D}(h:Dh roots c=some (d,roots1)){t:Nat}{x:Root}(hx:get roots1 t=some x):∃y,get roots t=some y:=by
 unfold Dh at h;split at h
 ·simp only[Ka,Kb]at h;obtain⟨_,rfl⟩:=h;exact⟨x,hx⟩
 ·simp only[Ka,Kb]at h;obtain⟨_,rfl⟩:=h;exact⟨x,hx⟩
 ·rename_i r p sz n;split at h
  ·rename_i sz0 es hr;split at h
   ·split at h
    ·simp only[Ka,Kb]at h;obtain⟨_,rfl⟩:=h;by_cases e:t=r
     ·subst e;exact⟨_,hr⟩
     rw[Vm e]at hx;exact⟨x,hx⟩
    simp at h
   simp at h
  simp at h
 simp at h
theorem Zqp {plI:Pls}{n0 nc fix r:Nat}{p:Af}{i:Nat}(hnc:nc<=n0):∀(ys:List C) (vs:List Value) (roots:List (Nat×Root)) (c:Nat) (ks:List (Nat×Af)) (w:World) (g:Lab) (pl:Pls) (nx:Nat) (res:List (Nat×Root)×List (Nat×Af)),
  Hp w0 own0 pl0 g pl roots nx nc fix w->n0<=nx->(∀t x,get roots t=some x->t<n0)->(∀z u,CR plI nc z u->CR pl nc (A7 ks z) u)->Ab (CR plI nc) ys vs ->
  ∀(sz0:Nat) (es:List (List D)) (n:Nat×List (List D)) (e:List D),get roots r=some (.tr sz0 es)->Am sz0 es p=some n->n.2[i]? = some e->c+ys.length<=e.length ->
  Hw fix r p i ys roots c ks=some res ->
  ∃g' pl' nx',Hp w0 own0 pl0 g' pl' res.1 nx' nc fix (Hv w (pl r p).b ((pl r p).off+(i*(pl r p).sz+c)) vs)/\n0<=nx'/\(∀t x,get res.1 t=some x->t<n0)/\(∀z u,CR plI nc z u->CR pl' nc (A7 res.2 z) u)
 | [],[],roots,c,ks,w,g,pl,nx,res,h,hn0,hids,hcr,_,sz0,es,n,e,hr,hp,he,hle,hst=>by
  simp only[Hw,Ka]at hst;subst hst;exact⟨g,pl,nx,h,hn0,hids,hcr⟩
 | y::ys,v::vs,roots,c,ks,w,g,pl,nx,res,h,hn0,hids,hcr,hall,sz0,es,n,e,hr,hp,he,hle,hst=>by
  simp only[Kf]at hle;have hy:=hcr y v hall.1;have hcc:=(h.node (r:=r) (p:=p) (n:=n)
   (by unfold Dr;rw[hr];exact hp)).2
  have hd:∃d0,e[c]? = some d0:=⟨_,Ku (by omega)⟩;obtain⟨d0,hd⟩:=hd;have hszp:=hcc.szp;unfold Hw at hst;split at hst
  ·rename_i u hyk;rw[hyk]at hy;obtain⟨rfl,h1⟩:=hy;rw[hr]at hst;simp only at hst;obtain⟨hL,_⟩:=h.setLeaf hr hp he hd h1;obtain⟨n',hn',hn1,hn2⟩:=Zg0 hp he c (.lf v);obtain⟨g',pl',nx',a1,a2,a3,a4⟩:=Zqp hnc ys vs _ (c+1) ks _ g pl nx res hL hn0 (fun t x hx=>by
     rw[Ax]at hx;split at hx
     ·rename_i e';subst e';exact hids _ _ hr
     ·exact hids t x hx) hcr hall.2 sz0 _ n' _ (by rw[Ax,if_pos rfl]) hn' hn2 (by simp;omega) hst
   refine⟨g',pl',nx', ?_,a2,a3,a4⟩;rw[Hv,hszp];rw[hszp]at a1;rw[show (pl r p).off+(i*n.1+c)+1=(pl r p).off+(i*n.1+(c+1)) by omega];exact a1
  rename_i hnl;split at hst
  ·rename_i d roots1 htk;split at hst
   ·rename_i sz1 es1 hr1;split at hst
    ·rename_i hcond;obtain⟨hfix,hcell⟩:=hcond;unfold Ok at hcell;split at hcell
     ·rename_i e1 hne1;simp only[decide_eq_true_eq]at hcell;simp only[Kg]at hne1;obtain⟨n1,hn1,he1⟩:=hne1;obtain⟨d1,hd1⟩:∃d1,e1[c]? = some d1:=⟨_,Ku (by omega)⟩;have hid1':∀t x,get roots1 t=some x->t<n0:=by
       intro t x hx;obtain⟨y,hy⟩:=Zqw htk hx;exact hids t y hy
      -- the real cell is written with the value,told as a leaf;then it is told what it is
      have key:∃g2 pl2 nx2,Hp w0 own0 pl0 g2 pl2 (put (Tf r (p++[(i,c)]) roots1) r (.tr sz1 (Dg es1 p i c d))) nx2 nc fix (w.setCell ⟨(pl r p).b,(pl r p).off+(i*(pl r p).sz+c),none⟩ v)/\nx<=nx2 /\
        (∀z u,CR pl nc z u->CR pl2 nc (Ew r (p++[(i,c)]) z) u)/\pl2 r p=pl r p/\(∀t x,get roots1 t=some x->t<n0):=by
       rcases Ych h hy htk with ⟨rfl,h1,rfl⟩|⟨sz,rfl,rfl,rfl⟩|⟨sz,es',g1,pl1,rfl,h1,hag,hwin,hid1⟩
       ·exfalso;unfold Dh at htk;split at htk
        ·first|exact hnl _ rfl|exact hnl _ ‹_›|simp_all
        ·simp at htk
        ·split at htk
         ·split at htk
          ·split at htk<;>simp at htk
          simp at htk
         simp at htk
        simp at htk
       ·rw[hr]at hr1;simp only[Ka,Root.tr.injEq]at hr1;obtain⟨rfl,rfl⟩:=hr1;rw[hp]at hn1;simp only[Ka]at hn1;subst hn1;rw[he]at he1;simp only[Ka]at he1;subst he1;obtain⟨hL,_⟩:=h.setLeaf hr hp he hd (u:=.slice none 0 0) rfl;obtain⟨n',hn',hn1',hn2'⟩:=Zg0 hp he c (.lf (.slice none 0 0));have hk:=fun (z:C) (u:Value) (k:CR pl nc z u)=>Zxc (r:=r) (pre:=p++[(i,c)]) (by simp) (L:=fun _=>⟨true,0,0,0,sz,none⟩) k;have hz:=hL.setNil (κ:=Ew r (p++[(i,c)])) (by rw[Ax,if_pos rfl]) hn' hn2' (by simp [getElem?_lt hd]) sz hfix hk;refine⟨_,_,nx,hz.roots_eq ?_ |> fun z=>by rw[hszp];exact z,Kc _,hk,Ie (fun k=>Ti k.2),hid1'⟩;intro t;rw[Ax,Ax,V3,S7,Ax];split
        ·rw[Ybi hp]
        rfl
       have hrn0:r<n0:=hid1' r _ hr1;have hrx:r<nx:=by omega
       have hr1':get ((nx,Root.tr sz es')::roots1) r=some (.tr sz1 es1):=by simp only[get];rw[if_neg (by omega)];exact hr1
       obtain⟨hL,_⟩:=h1.setLeaf hr1' hn1 he1 hd1 (u:=v) hwin.one;have hpe:pl1 r p=pl r p:=hag r p hrx;have hszp1:(pl1 r p).sz=n1.1:=(h1.node (r:=r) (p:=p) (n:=n1) (by unfold Dr;rw[hr1'];exact hn1)).2.szp;rw[hpe]at hszp1;obtain⟨n',hn',hn1',hn2'⟩:=Zg0 hn1 he1 c (.lf v);have hk:=fun (z:C) (u:Value) (k:CR pl1 nc z u)=>Zxc (r:=r) (pre:=p++[(i,c)]) (by simp) (L:=fun q=>pl1 nx ([]++q)) k;have hm:=hL.move (κ:=Ew r (p++[(i,c)])) (R:=r) (by rw[Ax,if_pos rfl]) hn' hn2' (by simp [getElem?_lt hd1]) hfix (r:=nx) (by omega) (p:=[]) (sz:=sz) (n:=es'.length) (sz0:=sz) (es:=es')
        (by rw[Ax,if_neg (by omega)];simp [get]) rfl (Kc _) hwin hk
       refine⟨_,_,nx+1,hm.roots_eq ?_ |> fun z=>by rw[hszp1,<-hpe];exact z,by omega,fun z u k=>hk z u (k.agree fun r p hr=>hag r p (by have:=h.ncle;omega)),by rw[Ie (fun k=>Ti k.2)];exact hpe,hid1'⟩;intro t;rw[Ax,Ax,V3,S7];split
       ·rw[Ybi hn1,Kkc]
       rename_i hne;congr 1;simp only[Et];rw[Hj,Ax,if_neg hne];simp only[get];split
       ·rename_i e;subst e;cases hq:get roots1 nx with
        | none=>rfl
        | some x=>have:=hid1' _ _ hq;omega
       rfl
      obtain⟨g2,pl2,nx2,hp2,hnx2,hcr2,hpl2,hid2⟩:=key;obtain⟨n',hn',hn1',hn2'⟩:=Zg0 hn1 he1 c d;obtain⟨g',pl',nx',a1,a2,a3,a4⟩:=Zqp hnc ys vs _ (c+1) (ks++[(r,p++[(i,c)])]) _ g2 pl2 nx2 res hp2 (by omega) (fun t x hx=>by
        rw[Ax]at hx;split at hx
        ·rename_i e';subst e';exact hid2 _ _ hr1
        ·rw[V3]at hx;simp only[Ks]at hx;obtain⟨y,hy,_⟩:=hx;exact hid2 t y hy) (fun z u k=>by rw[Yqf];exact hcr2 _ _ (hcr z u k)) hall.2 sz1 _ n' _ (by rw[Ax,if_pos rfl]) hn' hn2' (by simp;omega) hst
      refine⟨g',pl',nx', ?_,a2,a3,a4⟩;rw[Hv];rw[hpl2]at a1;rw[show (pl r p).off+(i*(pl r p).sz+c)+1=(pl r p).off+(i*(pl r p).sz+(c+1)) by omega];exact a1
     simp at hcell
    simp at hst
   simp at hst
  simp at hst
 | [],_::_,_,_,_,_,_,_,_,_,_,_,_,_,h,_,_,_,_,_,_,_,_,_=>h.elim
 | _::_,[],_,_,_,_,_,_,_,_,_,_,_,_,h,_,_,_,_,_,_,_,_,_=>h.elim
end Go.Vs
namespace Go.Vs
variable [Glb]
variable {P:Program} {N:Nat} {w0:World} {own0:Nat->Nat->Prop} {pl0:Pls} {g:Lab} {pl:Pls} {S:St} {a:Act} {w:World} {K:V->List (Nat×Af)->List (Nat×Root)->Nat->Prop}
theorem Zea {nc:Nat}:∀{ys:List C}{vs:List Value},Ab (CR pl nc) ys vs->∀v∈vs,v.oneCell'=true
 | [],[],_,v,hv=>by simp at hv
 | _::_,_::_,h,v,hv=>by
  rcases Kh.1 hv with rfl|hv
  ·exact CR.one h.1
  exact Zea h.2 v hv
 | [],_::_,h,_,_=>h.elim
 | _::_,[],h,_,_=>h.elim
def Yef (P:Program) (w0:World) (own0:Nat->Nat->Prop) (pl0:Pls) (pl:Pls) (S:St) (K:V->List (Nat×Af)->List (Nat×Root)->Nat->Prop) (s:Sem Unit) (w:World):Prop :=
 ∃w' ks roots nx g' pl',s.run P w=.ok () w'/\Hp w0 own0 pl0 g' pl' roots nx nx S.fix w'/\(∀z u,CR pl S.next z u->CR pl' nx (A7 ks z) u)/\K .un ks roots nx
theorem Yvo (hR:Rel N w0 own0 pl0 g pl S a w){t:TypeId}{x v:Operand}{j:W}(ht:trW P (.store t x v)=some j) (h:wr S K j) :
  Yef P w0 own0 pl0 pl S K (Instr.storeAt t (a.eval x) (a.eval v)) w:=by
 simp only[trW,Kl,Kg,Ka]at ht;obtain⟨i,hi,x',hx,v',hv,rfl⟩:=ht;have h1:=Bk hR hx;have h2:=Bk hR hv;have hrun:∀(b o:Nat),a.eval x=.pointer (some ⟨b,o,none⟩)->(a.eval v).cells.size=i.size->(∀u∈(a.eval v).cells.toList,u.oneCell'=true) ->
   (∀j,j<(a.eval v).cells.toList.length->(∃u,w.cell? ⟨b,o+j,none⟩=some u)/\w.frozen? ⟨b,o+j,none⟩=false) ->
   (Instr.storeAt t (a.eval x) (a.eval v)).run P w=.ok () (Hv w b o (a.eval v).cells.toList):=by
  intro b o hb hs h1 hex;have hst:=Zhr (P:=P) b (a.eval v).cells.toList w o 0 h1 (by simpa using hex);simp [Instr.storeAt,hb,Instr.sureAddr,storeVar,sizeOf,typeInfo,hi,hs,hst]
 simp only[wr]at h;split at h
 ·rename_i r c he;rw[he]at h1;obtain⟨hr,hpv⟩:=Be h1;obtain⟨ys,hys,hl,cs,hcs,hle,hK⟩:=h;have hall:=Zex h2 hys;have hll:=hall.length;obtain⟨_,hok⟩:=hR.hp.roots r _ hcs;obtain⟨roots',hp,hroots⟩:=Ybh (roots:=S.roots) ys (a.eval v).cells.toList cs c w S.roots hR.hp hcs (by omega) hall;refine⟨_,[],_,S.next,g,pl,hrun _ _ hpv (by rw[<-Ksb];omega) (Zea hall) ?_,hp.roots_eq (fun t=>(hroots t).symm),fun z u hk=>hk,by rw[hl];exact hK⟩;intro j hj;obtain⟨u,e1,_,_,e2⟩:=hok (c+j) _ (Ku (show c+j<cs.length by omega));rw[<-Kgb]at e1 e2;exact⟨⟨u,e1⟩,e2⟩
 ·rename_i r p i' c he;rw[he]at h1;obtain⟨hr,hnil,hpv⟩:=Be h1;obtain⟨ys,hys,hl,e,hE,hle,⟨sz0,es,hroot⟩,res,hres,hK⟩:=h;have hall:=Zex h2 hys;have hll:=hall.length;simp only[Kg]at hE;obtain⟨n,hn,hei⟩:=hE;have hn':Am sz0 es p=some n:=by
   rw[Ra]at hn;unfold Dr at hn;rw[hroot]at hn;exact hn
  obtain⟨hc,hm⟩:=(hR.hp.roots r _ hroot).2 p n hn';obtain⟨g',pl',nx',a1,a2,a3,a4⟩:=Zqp (n0:=S.next) (Kc _) ys (a.eval v).cells.toList S.roots c [] w g pl S.next res hR.hp (Kc _) (fun t x hx=>(hR.hp.roots t x hx).1) (fun z u k=>k) hall sz0 es n e hroot hn' hei (by omega) hres;refine⟨_,res.2,res.1,S.next,_,pl',hrun _ _ hpv (by rw[<-Ksb];omega) (Zea hall) ?_,a1.trim (Kc _) hR.hp.fixle a3,a4,hK⟩;intro j hj;have hb:=hc.bound hei (Ku (show c+j<e.length by omega));obtain⟨_,e1,e2⟩:=hm (i'*n.1+(c+j)) (by rw[hc.szp];exact hb.2.2.1);rw[hc.szp];rw[show (pl r p).off+(i'*n.1+c)+j=(pl r p).off+(i'*n.1+(c+j)) by omega];exact⟨e1,e2⟩
 exact h.elim
theorem Zz0 {α:Type}(n:Nat) (l:List α):(rep n l).length=n*l.length:=by
 induction n with
 | zero=>simp [rep]
 | succ n ih=>simp [rep,ih,Kbb];omega
theorem Zzz {α:Type}{l:List α}:∀(n i c:Nat),i<n->c<l.length->(rep n l)[i*l.length+c]? = l[c]?
 | 0,_,_,h,_=>by omega
 | n+1,0,c,_,hc=>by simp [rep,Ksa hc]
 | n+1,i+1,c,h,hc=>by
  simp only[rep];rw[Kia (by rw[Kbb];omega)];rw[show (i+1)*l.length+c-l.length=i*l.length+c by rw[Kbb];omega];exact Zzz n i c (by omega) hc
theorem Zx3 (z:Array Value) (n:Nat) (hz:0<z.size):∀j,j<n->(madeCells z n)[j]? = z[j%z.size]?:=by
 intro j hj;have:j%z.size<z.size:=Kmc _ hz;simp [madeCells,hj,Array.getElem!_eq_getD,Array.getD,this]
theorem Yyg {nc:Nat}{c:C}{v:Value}(h:CR pl nc c v) (hp:Tt c=true):(Rs c=.lf v/\v.oneCell'=true)\/(∃s,Rs c=.sl s []/\v=.slice none 0 0):=by
 cases c with
 | lf x=>obtain⟨rfl,h1⟩:=h;exact .inl ⟨rfl,h1⟩
 | nl sz=>exact .inr ⟨sz,rfl,h⟩
 | un=>simp [Tt]at hp
 | rf=>simp [Tt]at hp
 | pe=>simp [Tt]at hp
 | pb=>simp [Tt]at hp
theorem Zcg {pl:Pls}{nx B cap sz n:Nat}{L:Af->Pl}(hL:pl nx []=⟨false,B,0,cap,sz,none⟩) (hn:n<=cap):Win (pl nx []) sz 0 n (.slice (some ⟨B,0,none⟩) n cap):=by
 rw[hL];exact⟨rfl,by simp,by simpa using hn,some ⟨B,0,none⟩,by simp,fun _=>by simp⟩
theorem Yx9 (hR:Rel N w0 own0 pl0 g pl S a w){t:TypeId}{l c:Operand}{j:W}(ht:trW P (.makeSlice t l c)=some j) (h:wr S K j) :
  N5 P w0 own0 pl0 pl S K (Instr.makeSlice t (a.eval l) (a.eval c)) w:=by
 simp only[trW]at ht;split at ht
 ·rename_i e hu;simp only[Kl,Kg]at ht;obtain⟨i,hi,z,hz,zc,hzc,ht⟩:=ht;split at ht
  ·rename_i hcond;obtain⟨hzl,hpos⟩:=hcond;simp only[Kg,Ka]at ht;obtain⟨l',hl,c',hc,rfl⟩:=ht;have h1:=Bk hR hl;have h2:=Bk hR hc;simp only[wr]at h;split at h
   ·rename_i k1 z1 k2 z2 he hf;rw[he]at h1;rw[hf]at h2;obtain⟨hv1,_⟩:=Be h1;obtain⟨hv2,_⟩:=Be h2;obtain⟨rfl,h0,hb,h63,hplain,hK⟩:=h;have hall:=Qc (pl:=pl) (nx:=S.next) hzc;have hlen:=hall.length;have hzs:z.cells.size=i.size:=by rw[<-Ksb,<-hlen,hzl]
    have hrun:=run_make (P:=P) w t e i z hu hi hz k1 k2 z2 z2 h0 (Koc _) (by rw[Int.mul_comm];omega) h63;have hfr:=hR.hp.fresh (madeCells z.cells (z2.toNat*i.size)) e z2.toNat i.size (size_madeCells _ _);have hcell:∀(i':Nat) (e':List D) (c':Nat) (d:D),(List.replicate z2.toNat (zc.map Rs))[i']? = some e'->e'[c']? = some d ->
      ∃v,(w.alloc (.cells (madeCells z.cells (z2.toNat*i.size)) e)).cell? ⟨w.heap.size,i'*i.size+c',none⟩=some v/\((d=.lf v/\v.oneCell'=true)\/(∃s,d=.sl s []/\v=.slice none 0 0)):=by
     intro i' e' c' d he' hd;rw[Keg]at he';split at he'
     ·rename_i hi';simp only[Ka]at he';subst he';simp only[Kba,Ks]at hd;obtain⟨y,hy,rfl⟩:=hd;obtain⟨v,hv,hcr⟩:=hall.get _ _ hy;have hc':=getElem?_lt hy;have hjj:i'*i.size+c'<z2.toNat*i.size:=lin hi' (Kc _) (by omega);refine⟨v, ?_,Yyg hcr (by have:=Kna.1 hplain y (Kaa hy);exact this)⟩;rw[World.cell?_alloc_new,Zx3 _ _ (by omega) _ hjj,hzs];rw[Kgc,Nat.mul_add_mod,Kpc (by omega)];simpa using hv
     simp at he'
    have hx:=hfr.extendZ (r:=S.next) (sz:=i.size) (es:=[]) (by simp [get]) (by have:=hR.hp.fixle;omega) (Kc _) (List.replicate z2.toNat (zc.map Rs)) (by
      intro e' he';have:=Kfg he';subst this;simpa using hzl) (by rw[Cd];simp) (by
      intro i' e' c' d he' hd;rw[Cd];obtain⟨v,e1,e2⟩:=hcell i' e' c' d he' hd;refine⟨v, ?_,e2⟩;simp only[Ki,Kr];exact e1)
    have hag:Es S.next pl (plZ (E1 pl S.next fun _=>⟨false,w.heap.size,0,z2.toNat,i.size,none⟩) S.next (List.replicate z2.toNat (zc.map Rs)) 0):=by
     intro r p hr;rw[Za2 (Kc _) r p hr,Cv _ _ _ _ _ hr]
    refine Py hK (v:=.slice (some ⟨w.heap.size,0,none⟩) z2.toNat z2.toNat) ?_ (pl':=plZ (E1 pl S.next fun _=>⟨false,w.heap.size,0,z2.toNat,i.size,none⟩) S.next (List.replicate z2.toNat (zc.map Rs)) 0) ?_ (hx.bump.roots_eq ?_) (fun z u hk=>(hk.agree hag).mono (by omega))
    ·rw[hv1,hv2];exact hrun
    ·refine⟨by omega,Zcg (L:=fun _=>default) ?_ (Kc _)⟩;rw[Za3,Cd]
    intro t';rw[Ax];simp only[get];split
    ·simp
    rfl
   exact h.elim
  simp at ht
 simp at ht
end Go.Vs
namespace Go.Vs
variable [Glb]
variable {P:Program} {N:Nat} {w0:World} {own0:Nat->Nat->Prop} {pl0:Pls} {g:Lab} {pl:Pls} {S:St} {a:Act} {w:World} {K:V->List (Nat×Af)->List (Nat×Root)->Nat->Prop}
theorem Sl {α:Type}(sz:Nat):∀(n:Nat) (l:List α),(E7 sz n l).length=n
 | 0,_=>rfl
 | n+1,l=>by simp [E7,Sl sz n]
theorem Sk {α:Type}(sz:Nat):∀(n:Nat) (l:List α) (i:Nat),i<n->(E7 sz n l)[i]? = some ((l.drop (i*sz)).take sz)
 | 0,_,_,h=>by omega
 | n+1,l,0,_=>by simp [E7]
 | n+1,l,i+1,h=>by
  simp only[E7,Kpa];rw[Sk sz n _ i (by omega),Kbd];rw[show sz+i*sz=(i+1)*sz by rw[Kbb];omega]
theorem Yfm {α:Type}{sz n:Nat}{l:List α}{i c:Nat}{e:List α}{d:α}(he:(E7 sz n l)[i]? = some e) (hd:e[c]? = some d):i<n/\c<sz/\l[i*sz+c]? = some d:=by
 have hi:=getElem?_lt he;rw[Sl]at hi;rw[Sk sz n l i hi]at he;simp only[Ka]at he;subst he;rw[Kwa]at hd;by_cases hc:c<sz
 ·rw[if_pos hc,Kdb]at hd;exact⟨hi,hc,hd⟩
 rw[if_neg hc]at hd;simp at hd
theorem Yfn {α:Type}{sz n:Nat}{l:List α}(hl:l.length=n*sz){e:List α}(he:e∈E7 sz n l):e.length=sz:=by
 obtain⟨i,hi⟩:=Klc he;have h1:=getElem?_lt hi;rw[Sl]at h1;rw[Sk sz n l i h1]at hi;simp only[Ka]at hi;subst hi;have:=Kac sz (show i+1<=n by omega);rw[Kbb]at this;simp;omega
theorem Yfo {sz n:Nat}{l:List D}(hl:l.length=n*sz){i c:Nat}(hi:i<n) (hc:c<sz) (d:D):Fi (E7 sz n l) i c d=E7 sz n (l.set (i*sz+c) d):=by
 simp only[Fi,Sk sz n l i hi];apply Kzc;intro j;by_cases hj:j<n
 ·rw[Sk sz n _ j hj,Kya];split
  ·rename_i e;subst e;rw[if_pos (by rw[Sl];exact hi)];congr 1;apply Kzc;intro k;simp only[Kya,Kwa,Kdb,Kua,Kma];have hlt:=lin hi (Kc _) hc;by_cases hk:k<sz
   ·by_cases hck:c=k
    ·subst hck;simp [hk,hlt,show c<min sz (n*sz-i*sz) by omega,hl]
    simp [hk,hck,show ¬i*sz+c=i*sz+k by omega]
   simp [hk,show ¬c=k by omega]
  rename_i hne;rw[Sk sz n l j hj];congr 1;apply Kzc;intro k;simp only[Kya,Kwa,Kdb];by_cases hk:k<sz
  ·have:¬i*sz+c=j*sz+k:=fun e=>hne (Zxx hc hk e).1;simp [hk,this]
  simp [hk]
 rw[Kjc (by rw[Kee,Sl];omega),Kjc (by rw[Sl];omega)]
theorem Ycf {roots:List (Nat×Root)}{c:C}{d:D}{roots1:List (Nat×Root)}(h:Dh roots c=some (d,roots1)){R:Nat}{x:Root}{nc:Nat}{v:Value}(hc:CR pl nc c v) (hR:nc<=R) :
  Dh ((R,x)::roots) c=some (d,(R,x)::roots1):=by
 unfold Dh at h ⊢;split at h
 ·simp only[Ka,Kb]at h;obtain⟨rfl,rfl⟩:=h;rfl
 ·simp only[Ka,Kb]at h;obtain⟨rfl,rfl⟩:=h;rfl
 ·rename_i r p sz n;have hr:=hc.1;have hne:¬R=r:=by omega
  simp only[get,hne,if_false];split at h
  ·rename_i sz0 es hg;split at h
   ·rename_i sz' es1 hn;split at h
    ·rename_i hcond;simp only[Ka,Kb]at h;obtain⟨rfl,rfl⟩:=h;simp only[hg,hn,hcond,and_self,if_true];congr 2;unfold Et;split
     ·simp [del,hne]
     simp only[get,hne,if_false,hg];simp [put,hne]
    simp at h
   simp at h
  simp at h
 simp at h
def gh:C->Value->D
 | .nl s,_=>.sl s []
 | _,u=>.lf u
def ghs:List C->List Value->List D
 | c::cs,u::us=>gh c u::ghs cs us
 | _,_=>[]
theorem Zmm:∀{cs:List C}{us:List Value}{R:C->Value->Prop},Ab R cs us->(ghs cs us).length=cs.length
 | [],[],_,_=>rfl
 | _::_,_::_,_,h=>by simp [ghs,Zmm h.2]
 | [],_::_,_,h=>h.elim
 | _::_,[],_,h=>h.elim
theorem Zv1:∀{cs:List C}{us:List Value}{R:C->Value->Prop},Ab R cs us->∀(k:Nat) (d:D),(ghs cs us)[k]? = some d->∃c u,cs[k]? = some c/\us[k]? = some u/\d=gh c u/\R c u
 | [],[],_,_,k,d,h=>by simp [ghs]at h
 | c::cs,u::us,R,h,0,d,hd=>by simp [ghs]at hd;exact⟨c,u,rfl,rfl,hd.symm,h.1⟩
 | c::cs,u::us,R,h,k+1,d,hd=>by
  simp only[ghs,Kpa]at hd;simpa using Zv1 h.2 k d hd
 | [],_::_,_,h,_,_,_=>h.elim
 | _::_,[],_,h,_,_,_=>h.elim
theorem Hp.move_id {roots:List (Nat×Root)}{nx nc fix:Nat}(h:Hp w0 own0 pl0 g pl roots nx nc fix w){R szR:Nat}{esR:List (List D)}(hR:get roots R=some (.tr szR esR)){P:Af}{nP:Nat×List (List D)}(hP:Am szR esR P=some nP)
  {i c:Nat} {e:List D} {v:Value} (he:nP.2[i]? = some e) (hd:e[c]? = some (.lf v)) (hfix:fix<=R) (hnc:nc<=R)
  {r:Nat} (hne:r≠R) {p:Af} {sz n sz0:Nat} {es:List (List D)} (hr:get roots r=some (.tr sz0 es)) {es1:List (List D)} (hp:Am sz0 es p=some (sz,es1)) (hn:n<=es1.length)
  (hv:Win (pl r p) sz 0 n v) :
  Hp w0 own0 pl0 (L6 g r p R (P++[(i,c)])) (Ic pl R (P++[(i,c)]) fun q=>pl r (p++q))
   (put (Et roots r p) R (.tr szR (Dg esR P i c (.sl sz (es1.take n))))) nx nc fix w:=by
 have hm:=h.move (κ:=fun x=>x) hR hP he hd hfix hne hr hp hn hv (fun x u k=>k.agree fun r p hr=>Ie (by rintro ⟨rfl,_⟩;omega));refine hm.roots_eq fun t=>?_;rw[Ax,Ax,S7];split
 ·rfl
 cases get (Et roots r p) t with
 | none=>rfl
 | some x=>simp [Root.map_id]
theorem Yrz (sz:Nat) (es:List (List D)):Am sz es []=some (sz,es):=rfl
theorem Zxz {R sz len nc fix:Nat}(hfix:fix<=R) (hnc:nc<=R){plI:Pls}:∀(cs:List C) (us:List Value) (dn:List D) (roots:List (Nat×Root)) (g:Lab) (pl:Pls) (nx:Nat) (res:List D×List (Nat×Root)),
  Hp w0 own0 pl0 g pl ((R,.tr sz (E7 sz len (dn++ghs cs us)))::roots) nx nc fix w->R<nx->dn.length+cs.length=len*sz->Ab (CR plI nc) cs us->Es nc plI pl->Cx roots cs=some res ->
  ∃g' pl' nx',Hp w0 own0 pl0 g' pl' ((R,.tr sz (E7 sz len (dn++res.1)))::res.2) nx' nc fix w/\R<nx'/\Es nc plI pl'/\pl' R []=pl R []/\(∀t x,get res.2 t=some x->∃y,get roots t=some y)
 | [],[],dn,roots,g,pl,nx,res,h,hRn,hl,_,hag,ht=>by
  simp only[Cx,Ka]at ht;subst ht;exact⟨g,pl,nx,by simpa [ghs] using h,hRn,hag,rfl,fun t x hx=>⟨x,hx⟩⟩
 | c::cs,u::us,dn,roots,g,pl,nx,res,h,hRn,hl,hall,hag,ht=>by
  unfold Cx at ht;split at ht
  ·rename_i d roots1 htk;split at ht
   ·rename_i ds roots2 htl;simp only[Ka]at ht;subst ht;have hcr:=hall.1.agree hag;have htk':=Ycf (x:=.tr sz (E7 sz len (dn++ghs (c::cs) (u::us)))) htk hcr hnc;have hlen:=Zmm hall.2;simp only[Kf]at hl;have next:∃g1 pl1 nx1,Hp w0 own0 pl0 g1 pl1 ((R,.tr sz (E7 sz len (dn++d::ghs cs us)))::roots1) nx1 nc fix w/\R<nx1/\Es nc plI pl1/\pl1 R []=pl R []:=by
     cases c with
     | lf x =>
      simp only[Dh,Ka,Kb]at htk;obtain⟨rfl,rfl⟩:=htk;obtain⟨rfl,_⟩:=hcr;exact⟨g,pl,nx,h,hRn,hag,rfl⟩
     | nl s =>
      simp only[Dh,Ka,Kb]at htk;obtain⟨rfl,rfl⟩:=htk;exact⟨g,pl,nx,h,hRn,hag,rfl⟩
     | un=>simp [Dh]at htk
     | pe=>simp [Dh]at htk
     | pb=>simp [Dh]at htk
     | rf r p s lo n =>
      obtain⟨es',g1,pl1,rfl,h1,hag1,hwin,hid⟩:=Yv5 h hcr htk';have hk:dn.length<len*sz:=by omega
      have hsz:0<sz:=by
       rcases Kgf sz with h0|h0
       ·subst h0;simp at hk
       exact h0
      have hidx:dn.length / sz<len:=Khe (by rw[Kgc];exact hk);have hmod:dn.length%sz<sz:=Kmc _ hsz;have hdm:dn.length / sz*sz+dn.length%sz=dn.length:=by rw[Kgc];exact Kie _ _
      have hgl:(dn++ghs (.rf r p s lo n::cs) (u::us)).length=len*sz:=by simp [ghs,hlen];omega
      have hgk:(dn++ghs (.rf r p s lo n::cs) (u::us))[dn.length]? = some (.lf u):=by simp [ghs,gh]
      have he:=Sk sz len (dn++ghs (.rf r p s lo n::cs) (u::us)) _ hidx;have hm:=h1.move_id (R:=R) (szR:=sz) (esR:=E7 sz len (dn++ghs (.rf r p s lo n::cs) (u::us))) (P:=[]) (by simp only[get];rw[if_neg (by omega)];simp) (Yrz _ _) he (c:=dn.length%sz) (v:=u)
       (by rw[Kwa,if_pos hmod,Kdb,hdm];exact hgk) hfix hnc (r:=nx) (by omega) (p:=[]) (sz:=s) (n:=es'.length) (sz0:=s) (es:=es') (by simp [get]) rfl (Kc _) hwin
      refine⟨_,_,nx+1,hm.roots_eq fun t=>?_,by omega,fun r p hr=>?_, ?_⟩
      ·rw[Ax];simp only[Et,get];split
       ·simp only[Dg,D0];rw[Yfo hgl hidx hmod,hdm,Kkc];congr 3;simp [ghs,gh]
       rename_i hne;rw[Hj];simp only[get,hne,if_false];split
       ·rename_i e;subst e;cases hq:get roots1 nx with
        | none=>rfl
        | some x =>
         have:=hid nx x (by simp only[get];rw[if_neg (by omega)];exact hq);omega
       rfl
      ·rw[Ie (by rintro ⟨rfl,_⟩;omega),hag1 r p (by have:=h.ncle;omega)];exact hag r p hr
      rw[Ie (by simp),hag1 R [] hRn]
    obtain⟨g1,pl1,nx1,h1,hRn1,hag1,hpl1⟩:=next;obtain⟨g',pl',nx',a1,a2,a3,a4,a5⟩:=Zxz hfix hnc cs us (dn++[d]) roots1 g1 pl1 nx1 (ds,roots2) (by simpa using h1) hRn1 (by simp;omega) hall.2 hag1 htl;refine⟨g',pl',nx',by simpa using a1,a2,a3,a4.trans hpl1,fun t x hx=>?_⟩;obtain⟨y,hy⟩:=a5 t x hx;exact Zqw htk hy
   simp at ht
  simp at ht
 | [],_::_,_,_,_,_,_,_,_,_,_,h,_,_=>h.elim
 | _::_,[],_,_,_,_,_,_,_,_,_,h,_,_=>h.elim
end Go.Vs
