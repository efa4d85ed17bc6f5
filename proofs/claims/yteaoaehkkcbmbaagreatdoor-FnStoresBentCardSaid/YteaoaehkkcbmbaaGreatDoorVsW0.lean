import Derived.Laws.Append
import Derived.Laws.Cells
import Derived.Below
import Derived.Tactics
import Derived.Laws.Slices
import Derived.Laws.Entries
import Derived.Laws.Small
import Derived.Laws.StructEq
import Derived.ChangeKeysEq
import Derived.Laws.BytesString
import Derived.Laws.Tables
import Derived.Laws.MakeOwn
set_option linter.all false
namespace Go.Vs
def Ac:=@Option.some.injEq
def Ae:=@if_neg
def Af:=@if_pos
def A6:=@Bool.and_eq_true
def Aq:=@List.length_cons
def Ay:=@List.length_nil
def A0:=@List.nil_append
def A1:=@List.cons_append
def A2:=@List.map_cons
def A5:=@Prod.mk.injEq
def A7:=@Nat.zero_add
def AA:=@decide_eq_true_eq
def AB:=@List.append_nil
def AD:=@List.getElem?_cons_zero
def AE:=@Nat.le_refl
def AF:=@decide_eq_true
def AG:=@decide_eq_false
def AJ:=@List.drop_zero
def AL:=@Nat.add_zero
def AN:=@List.getElem?_cons_succ
def AO:=@Option.bind_eq_some_iff
def AP:=@List.take_zero
def AS:=@Nat.le_of_ble_eq_true
def AT:=@List.take_succ_cons
def AV:=@List.drop_succ_cons
def AX:=@List.mem_cons
def Bv:=@Option.bind_eq_bind
def Bx:=@List.mem_cons_of_mem
def B3:=@List.length_map
def B5:=@List.mem_cons_self
def B6:=@Nat.eq_of_beq_eq_true
def BC:=@if_false
def BF:=@if_true
def BP:=@Option.map_eq_some_iff
def BW:=@List.getElem?_eq_getElem
def Cb:=@List.length_append
def Ce:=@Nat.not_lt
def Cq:=@Nat.zero_le
def C2:=@List.map_append
def C6:=@Bool.false_eq_true
def C7:=@List.mem_append
def CB:=@List.map_nil
def CC:=@List.mem_map
def CE:=@Bool.or_eq_true
def CJ:=@beq_iff_eq
def CO:=@Nat.lt_of_lt_of_le
def CP:=@List.mem_of_getElem?
def CQ:=@List.getElem?_map
def CV:=@Bool.not_eq_true'
def CW:=@Nat.le_trans
def CY:=@List.getElem?_eq_some_iff
def Db:=@List.mem_singleton
def Dg:=@Option.map_some
def Dh:=@List.getElem?_append_right
def Di:=@List.length_drop
def DE:=@List.all_eq_true
def D8:=@decide_eq_false_iff_not
def DF:=@Option.bind_some
def DG:=@Nat.lt_succ_self
def DM:=@List.flatMap_cons
def DN:=@bne_iff_ne
def DO:=@ne_eq
def DU:=@congrArg
def Eb:=@Int.not_lt
def Ec:=@Bool.and_eq_false_iff
def Eg:=@Option.getD_some
def Eh:=@Int.not_le
def Ei:=@Bool.not_eq_true
def Ej:=@Bool.not_eq_false
def Ek:=@Bool.not_eq_false'
def El:=@Bool.or_eq_false_iff
def Em:=@bne_eq_false_iff_eq
def En:=@beq_eq_false_iff_ne
def Eo:=@gt_iff_lt
def Ep:=@ge_iff_le
def E3:=@List.getElem?_append_left
def E4:=@List.nodup_cons
def EF:=@List.length_take
def EG:=@List.append_assoc
def EM:=@List.getElem?_take
def EN:=@List.getElem_mem
def Fg:=@Array.getD_eq_getD_getElem?
def Fn:=@Nat.add_mul
def Fo:=@List.getElem?_set
def Fp:=@List.map_take
def F2:=@List.getElem?_drop
def F3:=@List.take_of_length_le
def F4:=@List.map_drop
def FQ:=@Nat.add_assoc
def Gb:=@Int.eq_ofNat_of_zero_le
def Gm:=@List.mem_of_mem_drop
def Gn:=@Int.toNat_natCast
def G4:=@List.mem_of_mem_take
def G5:=@Nat.lt_succ_of_lt
def GO:=@List.map_map
def Hh:=@Array.length_toList
def H1:=@List.drop_eq_getElem_cons
def H2:=@Option.map_none
def H3:=@true_and
def H4:=@absurd
def Hz:=@List.mem_range
def H0:=@List.forall_mem_append
def HQ:=@Nat.mul_le_mul_right
def HR:=@Nat.le_succ
def I7:=@Bool.true_and
def I8:=@List.take_succ_eq_append_getElem
def Jc:=@Nat.lt_or_ge
def Jd:=@List.take_length
def Je:=@Nat.mul_comm
def Jf:=@List.zip_cons_cons
def Jg:=@List.take_append_drop
def Jh:=@List.mem_append_right
def Ji:=@List.flatten_cons
def J7:=@Bool.eq_iff_iff
def Kd:=@List.getElem?_of_mem
def Ke:=@List.flatMap_nil
def KF:=@List.getElem?_eq_none
def KG:=@Nat.mod_lt
def KH:=@Nat.mod_eq_of_lt
def KI:=@List.drop_left'
def L5:=@Array.getElem?_replicate
def L6:=@List.getElem?_set_self
def M7:=@Bool.false_and
def M8:=@Nat.sub_zero
def M9:=@List.length_eq_zero_iff
def MA:=@List.ext_getElem?
def MB:=@List.set_set
def MC:=@List.drop_drop
def MD:=@Array.getElem?_eq_getElem
def ME:=@List.nodup_append
def MF:=@List.take_left'
def MG:=@List.flatten_nil
def MH:=@List.filter_cons
def MI:=@List.getElem_of_mem
def MJ:=@List.getElem?_set_ne
def Od:=@Bool.not_true
def Oe:=@List.foldl_cons
def Og:=@Nat.mul_one
def Oh:=@Array.getElem?_append_left
def Oi:=@List.mem_filter
def Oj:=@List.isEmpty_iff
def PI:=@Nat.min_eq_left
def PJ:=@List.getElem?_range
def PK:=@and_true
def PL:=@Bool.and_true
def U1:=@of_decide_eq_true
def PM:=@Int.toNat_of_nonneg
def PN:=@Bool.and_false
def RG:=@List.drop_eq_nil_of_le
def RH:=@Bool.not_false
def RI:=@Int.le_refl
def RJ:=@Array.getElem?_setIfInBounds_self_of_lt
def RK:=@List.eq_nil_of_length_eq_zero
def RL:=@List.filterMap_cons_some
def RM:=@List.mem_filterMap
def RN:=@List.mem_append_left
def RO:=@List.foldl_append
def RP:=@List.map_set
def RQ:=@Bool.and_self
def RR:=@List.set_cons_zero
def RS:=@List.filter_append
def RT:=@List.drop_nil
def RU:=@and_false
def U2:=@Array.all_eq_true_iff_forall_mem
def U3:=@List.length_set
def U4:=@List.prefix_append
def U5:=@List.drop_left
def U6:=@Nat.div_lt_of_lt_mul
def U7:=@Nat.div_add_mod
def U8:=@Array.getElem?_eq_none
def U9:=@Nat.not_lt_zero
def UA:=@Array.getElem?_setIfInBounds_ne
def UB:=@List.take_add_one
def UC:=@List.getElem?_eq_none_iff
def UD:=@List.any_eq_true
def UE:=@List.getElem_cons_succ
def UF:=@Bool.and_assoc
def UG:=@Nat.sub_self
def UH:=@Nat.ne_of_beq_eq_false
def UI:=@Option.getD_none
def UJ:=@List.take_set_of_le
def UK:=@List.mem_or_eq_of_mem_set
def UL:=@Nat.add_right_cancel_iff
def UM:=@Int.emod_eq_of_lt
def UN:=@List.filter_eq_self
def Yg:=@Nat.one_mul
def Yh:=@List.cons_prefix_cons
def Yi:=@List.cons_ne_nil
def Yj:=@Nat.eq_zero_or_pos
def Yk:=@Array.getElem?_toList
def Yl:=@List.length_range
def Ym:=@List.mem_map_of_mem
def Yn:=@List.singleton_append
def Yo:=@List.range'_succ
def Yp:=@List.filterMap_cons_none
def Yq:=@Bool.false_or
def Yr:=@List.length_filter_le
def Ys:=@List.set_cons_succ
def Yt:=@List.foldl_nil
def Yu:=@List.set_append_right
def Yv:=@Option.toList_some
def Yw:=@List.drop_of_length_le
def Yx:=@List.not_mem_nil
def Yy:=@Nat.lt_of_le_of_lt
def Yz:=@or_false
def Y0:=@List.findIdx?_eq_some_iff_getElem
def Y1:=@List.findIdx?_eq_none_iff
def dX:=@List.mapM_cons
def dY:=@Option.isSome_iff_exists
def dZ:=@List.eq_of_mem_replicate
def d_:=@List.size_toArray
def da:=@List.length_replicate
def db:=@List.take_left
def dc:=@List.getElem_cons_zero
def de:=@List.reverse_nil
def df:=@Array.mapM_eq_mapM_toList
def dg:=@Bool.or_true
def dh:=@Array.all_eq_true'
def di:=@Nat.shiftRight_eq_div_pow
def dj:=@List.getElem?_nil
def dk:=@List.all_cons
def dl:=@Nat.add_sub_cancel_left
def dm:=@Int.fdiv_eq_ediv_of_nonneg
def dn:=@Int.le_of_lt
def dp:=@Int.ofNat_eq_natCast
def dq:=@List.getElem?_take_of_lt
def dr:=@List.nodup_nil
def dt:=@Nat.lt_of_not_le
def dv:=@List.all_append
def dw:=@List.drop_set_of_lt
def dx:=@List.length_zip
def dy:=@List.getElem_take
def dz:=@List.getD_eq_getElem?_getD
def eA:=@List.drop_length
def mO:=@Array.toList_setIfInBounds
def mP:=@List.getElem?_append
def mQ:=@List.getElem?_cons
def mS:=@List.getElem?_toArray
def mT:=@List.prefix_append_right_inj
def mU:=@Nat.lt_trichotomy
def mV:=@List.getElem?_replicate
def mW:=@Nat.mul_add_mod
def mX:=@Array.size_append
def mY:=@Array.size_map
def mZ:=@Array.size_range
def m5:=@Array.toList_map
def m6:=@List.zip_nil_left
def m7:=@List.sizeOf_lt_of_mem
def m8:=@List.range_eq_range'
def m9:=@List.contains_iff_mem
def m_:=@List.eq_nil_iff_forall_not_mem
def ma:=@List.filterMap_cons
def mb:=@Array.all_eq_true
def mc:=@Nat.and_two_pow_sub_one_eq_mod
def me:=@Nat.xor_lt_two_pow
def mf:=@List.flatten_append
def mg:=@List.take_take
def mh:=@Nat.ble_eq_true_of_le
def mi:=@List.set_append_left
def mj:=@List.map_replicate
def ml:=@List.mem_range'_1
def mn:=@Nat.le_of_lt_succ
def mo:=@Nat.not_le_of_not_ble_eq_true
def mp:=@Bool.and_eq_true_iff
def mq:=@Nat.pow_le_pow_right
def mr:=@Nat.and_le_left
def mt:=@Nat.or_lt_two_pow
def mu:=@Option.map_map
def mw:=@Nat.and_le_right
def my:=@List.length_singleton
def mz:=@Bool.eq_false_or_eq_true
def get{α:Type}:List (Nat×α)->Nat->Option α
 |[],_=>none
 |(k,x)::l,t=>if k=t then some x else get l t
def put{α:Type}:List (Nat×α)->Nat->α->List (Nat×α)
 |[],k,x=>[(k,x)]
 |(j,y)::l,k,x=>if j=k then (k,x)::l else (j,y)::put l k x
def BR{α:Type}:List (Nat×α)->Nat->List (Nat×α)
 |[],_=>[]
 |(j,y)::l,k=>if j=k then BR l k else (j,y)::BR l k
def Bn{α:Type}(l:List (Nat×α))(k:Nat)(x:α)(t:Nat):get (put l k x) t=if k=t then some x else get l t:=by
 induction l with
 |nil=>simp[put,get]
 |cons a l c=>
  obtain⟨j,y⟩:=a;simp only[put];split
  .rename_i h;subst h;simp only[get];split<;>rfl
  rename_i h;simp only[get,c];split
  .rename_i b;subst b;rw[Ae (λe=>h e.symm)]
  rfl
def Ii{α:Type}(l:List (Nat×α))(k:Nat)(t:Nat):get (BR l k) t=if k=t then none else get l t:=by
 induction l with
 |nil=>simp[BR,get]
 |cons a l b=>
  obtain⟨j,y⟩:=a;simp only[BR];split
  .rename_i h;subst h;rw[b];split<;>simp_all[get]
  rename_i h;simp only[get,b];split
  .rename_i c;subst c;rw[Ae (λe=>h e.symm)]
  rfl
def Ai{α β:Type}(R:α->β->Prop):List α->List β->Prop
 |[],[]=>True
 |a::c,b::d=>R a b/\Ai R c d
 |_,_=>False
def Ai.length{α β:Type}{R:α->β->Prop}:∀{a:List α}{b:List β},Ai R a b->a.length=b.length
 |[],[],_=>rfl
 |_::_,_::_,h=>by simp[Ai.length h.2]
 |[],_::_,h=>h.elim
 |_::_,[],h=>h.elim
def Ai.get{α β:Type}{R:α->β->Prop}:∀{c:List α}{d:List β},Ai R c d->∀(i:Nat) (a:α),c[i]?= some a->∃b,d[i]?= some b/\R a b
 |[],[],_,i,a,h=>by simp at h
 |x::c,y::d,h,0,a,e=>by simp at e;subst e;exact⟨y,rfl,h.1⟩
 |x::c,y::d,h,i+1,a,e=>by simpa using Ai.get h.2 i a (by simpa using e)
 |[],_::_,h,_,_,_=>h.elim
 |_::_,[],h,_,_,_=>h.elim
def Ai.mono{α β:Type}{R c:α->β->Prop}(k:∀a b,R a b->c a b):∀{d:List α}{e:List β},Ai R d e->Ai c d e
 |[],[],_=>trivial
 |_::_,_::_,h=>⟨k _ _ h.1,Ai.mono k h.2⟩
 |[],_::_,h=>h.elim
 |_::_,[],h=>h.elim
def Ai.of_get{α β:Type}{R:α->β->Prop}:∀{c:List α}{d:List β},c.length=d.length->(∀(i:Nat) (a:α) (b:β),c[i]?= some a->d[i]?= some b->R a b)->Ai R c d
 |[],[],_,_=>trivial
 |a::c,b::d,h,k=>⟨k 0 a b rfl rfl,Ai.of_get (by simpa using h) λi x y e f=>k (i+1) x y (by simpa using e) (by simpa using f)⟩
 |[],_::_,h,_=>by simp at h
 |_::_,[],h,_=>by simp at h
abbrev Ao:=List (Nat×Nat)
inductive D where
 |lf (v:Value)
 |sl (sz:Nat) (es:List (List D))
 |hole
 deriving Inhabited
inductive C where
 |un
 |nl (sz:Nat)
 |lf (v:Value)
 |rf (r:Nat) (p:Ao) (sz lo n:Nat)
 |pe (r:Nat) (p:Ao) (i c:Nat)
 |pb (r:Nat) (c:Nat)
 deriving Inhabited
inductive A where
 |c (x:C)
 |ag (cs:List C)
 deriving Inhabited
inductive V where
 |un
 |a (x:A)
 |tp (xs:List A)
 |fn (f:FuncId) (caps:List A)
 |sb (r n:Nat)
 deriving Inhabited
inductive Root where
 |tr (sz:Nat) (es:List (List D))
 |im (sz:Nat) (es:List (List D))
 |bx (cs:List C)
 |ib (cs:List C)
 deriving Inhabited
structure St where
 env:List (Nat×V)
 roots:List (Nat×Root)
 next:Nat
 fix:Nat
def AH:Nat->List (List D)->Ao->Option (Nat×List (List D))
 |e,a,[]=>some (e,a)
 |_,a,(i,c)::p=>
  match (a[i]?).bind (·[c]?) with
  |some (.sl d b)=>AH d b p
  |_=>none
def Mb(d:Nat)(b:List (List D))(p q:Ao):AH d b (p++q)=(AH d b p).bind λn=>AH n.1 n.2 q:=by
 induction p generalizing d b with
 |nil=>rfl
 |cons a p e=>
  obtain⟨i,c⟩:=a;simp only[A1,AH];split
  .exact e _ _
  rfl
def bI{e:Nat}{d:List (List D)}{p:Ao}{n:Nat×List (List D)}(h:AH e d p=some n)(i c:Nat):
  AH e d (p++[(i,c)])=match (n.2[i]?).bind (·[c]?) with|some (.sl b a)=>some (b,a)|_=>none:=by
 rw[Mb,h];simp only[DF,AH]
structure Pl where
 nil:Bool
 b:Nat
 off:Nat
 cap:Nat
 sz:Nat
 raw:Option Addr
 deriving Inhabited
abbrev Bp:=Nat->Nat->Option (Nat×Ao)
abbrev Aw:=Nat->Ao->Pl
def Pl.base(L:Pl):Option Addr:=if L.nil then L.raw else some ⟨L.b,L.off,none⟩
def LJ(L:Pl)(n:Nat):Value:=.slice L.base n L.cap
def DV(L:Pl):D->Value->Prop
 |.lf x,v=>v=x/\x.oneCell'=true
 |.sl b a,v=>L.sz=b/\v=LJ L a.length
 |.hole,v=>v.oneCell'=true
def Gc(L:Pl)(c a n:Nat)(v:Value):Prop:=
 L.sz=c/\(L.nil=true->L.cap=0)/\a+n<=L.cap/\∃A:Option Addr,v=.slice A n (L.cap-a)/\(a<L.cap\/a=0->A=if L.nil then L.raw else some ⟨L.b,L.off+a*L.sz,none⟩)
def CR(pl:Aw)(a:Nat):C->Value->Prop
 |.un,v=>v.oneCell'=true
 |.nl _,v=>v=.slice none 0 0
 |.lf x,v=>v=x/\x.oneCell'=true
 |.rf r p e d n,v=>r<a/\Gc (pl r p) e d n v
 |.pe r p i c,v=>r<a/\(pl r p).nil=false/\v=.pointer (some ⟨(pl r p).b,(pl r p).off+(i*(pl r p).sz+c),none⟩)
 |.pb r c,v=>r<a/\v=.pointer (some ⟨(pl r []).b,(pl r []).off+c,none⟩)
def AR(pl:Aw)(a:Nat):A->Value->Prop
 |.c x,v=>CR pl a x v
 |.ag d,v=>∃b:List Value,v=.agg b.toArray/\Ai (CR pl a) d b
def VR(pl:Aw)(e:Nat):V->Value->Prop
 |.un,_=>True
 |.a x,v=>AR pl e x v
 |.tp g,v=>∃d:List Value,v=.tuple d.toArray/\Ai (AR pl e) g d
 |.fn f c,v=>∃d:List Value,v=.func (.func f) #[] d.toArray/\Ai (AR pl e) c d
 |.sb r n,v=>r<e/\v=.slice (some ⟨(pl r []).b,(pl r []).off,none⟩) n n
structure NodeC (w:World) (pl:Aw) (r:Nat) (p:Ao) (sz:Nat) (es:List (List D)):Prop where
 szp:(pl r p).sz=sz
 le:es.length<=(pl r p).cap
 nil:(pl r p).nil=true->(pl r p).cap=0
 szs:∀e∈es,e.length=sz
 cells:∀i e c d,es[i]?= some e->e[c]?= some d->∃v,w.cell? ⟨(pl r p).b,(pl r p).off+(i*sz+c),none⟩=some v/\DV (pl r (p++[(i,c)])) d v
def MK(w:World)(g:Bp)(pl:Aw)(r:Nat)(p:Ao):Prop:=
 ∀j,j<(pl r p).cap*(pl r p).sz->g (pl r p).b ((pl r p).off+j)=some (r,p)/\(∃v,w.cell? ⟨(pl r p).b,(pl r p).off+j,none⟩=some v)/\w.frozen? ⟨(pl r p).b,(pl r p).off+j,none⟩=false
def nG(a:Nat->Nat->Prop)(pl:Aw)(r:Nat)(p:Ao)(n:Nat):Prop:=∀j,j<n*(pl r p).sz->a (pl r p).b ((pl r p).off+j)
def Er(h:Nat->Nat->Prop)(w:World)(g:Bp)(pl:Aw)(f:Nat)(r:Nat):Root->Prop
 |.tr e d=>∀p n,AH e d p=some n->NodeC w pl r p n.1 n.2/\MK w g pl r p
 |.im e d=>∀p n,AH e d p=some n->NodeC w pl r p n.1 n.2/\nG h pl r p n.2.length
 |.bx a=>∀c x,a[c]?= some x->∃v,w.cell? ⟨(pl r []).b,(pl r []).off+c,none⟩=some v/\CR pl f x v/\g (pl r []).b ((pl r []).off+c)=some (r,[(0,c)])/\w.frozen? ⟨(pl r []).b,(pl r []).off+c,none⟩=false
 |.ib a=>∀c x,a[c]?= some x->∃v,w.cell? ⟨(pl r []).b,(pl r []).off+c,none⟩=some v/\CR pl f x v/\h (pl r []).b ((pl r []).off+c)
class Glb where
 tab:List (Nat×List UInt8)
def aP:List (Nat×List UInt8)->Nat->Option (List UInt8)
 |[],_=>none
 |x::l,b=>match Nat.beq x.1 b with
  |true=>some x.2
  |false=>aP l b
def GU[Glb](b o:Nat):Option Value:=match aP Glb.tab b with
 |some l=>match l[o]? with
  |some y=>some (.int .u8 y.toNat)
  |none=>none
 |none=>none
def Qv[Glb](b o:Nat):Nat->Option (List Value)
 |0=>some []
 |m+1=>match GU b o,Qv b (o+1) m with
  |some v,some a=>some (v::a)
  |_,_=>none
variable [Glb]
structure Fr (w0:World) (own0:Nat->Nat->Prop) (w:World):Prop where
 os:w.os=w0.os
 tape:w.tape=w0.tape
 output:w.output=w0.output
 size:w0.heap.size<=w.heap.size
 block:∀b,b<w0.heap.size->(∀o,¬own0 b o)->w.heap[b]?= w0.heap[b]?
 cell:∀b o,b<w0.heap.size->¬own0 b o->w.cell? ⟨b,o,none⟩=w0.cell? ⟨b,o,none⟩/\w.frozen? ⟨b,o,none⟩=w0.frozen? ⟨b,o,none⟩
 gl:∀b o v,GU b o=some v->b<w0.heap.size/\¬own0 b o/\w0.cell? ⟨b,o,none⟩=some v
def Fr.glb{g w:World}{a:Nat->Nat->Prop}(h:Fr g a w){b o:Nat}{v:Value}(f:GU b o=some v):w.cell? ⟨b,o,none⟩=some v:=by
 obtain⟨c,d,e⟩:=h.gl b o v f;rw[(h.cell b o c d).1,e]
def G2(c:World)(a:Nat->Nat->Prop)(b o:Nat):Prop:=b<c.heap.size/\¬a b o
structure Hp (w0:World) (own0:Nat->Nat->Prop) (pl0:Aw) (g:Bp) (pl:Aw) (roots:List (Nat×Root)) (nx nc fix:Nat) (w:World):Prop where
 fr:Fr w0 own0 w
 lab:∀b o x,g b o=some x->b<w.heap.size/\(w0.heap.size<=b\/own0 b o)/\x.1<nx
 fixed:∀r p,r<fix->pl r p=pl0 r p
 fixle:fix<=nx
 ncle:nc<=nx
 roots:∀r x,get roots r=some x->r<nx/\Er (G2 w0 own0) w g pl nc r x
structure Rel (N:Nat) (w0:World) (own0:Nat->Nat->Prop) (pl0:Aw) (g:Bp) (pl:Aw) (S:St) (a:Act) (w:World):Prop where
 hp:Hp w0 own0 pl0 g pl S.roots S.next S.next S.fix w
 size:a.tmps.size=N
 defers:a.defers=[]
 env:∀t x,get S.env t=some x->VR pl S.next x (a.tmps.getD t undef)
def Gc.one{L:Pl}{b a n:Nat}{v:Value}(h:Gc L b a n v):v.oneCell'=true:=by obtain⟨_,_,_,A,rfl,_⟩:=h;rfl
def CR.one{pl:Aw}{a:Nat}{x:C}{v:Value}(h:CR pl a x v):v.oneCell'=true:=by
 cases x with
 |un=>exact h
 |nl b=>rw[show v=_ from h];rfl
 |lf x=>rw[h.1];exact h.2
 |rf r p b d n=>exact h.2.one
 |pe r p i c=>rw[h.2.2];rfl
 |pb r c=>rw[h.2];rfl
def DV.one{L:Pl}{d:D}{v:Value}(h:DV L d v):v.oneCell'=true:=by
 cases d with
 |lf x=>rw[h.1];exact h.2
 |sl b a=>rw[h.2];rfl
 |hole=>exact h
def yD{v:Value}(h:v.oneCell'=true):v.cells=#[v]:=by cases v<;>first|rfl|(simp[Value.oneCell']at h)
def CR.mono{pl:Aw}{b a:Nat}(h:b<=a){x:C}{v:Value}(k:CR pl b x v):CR pl a x v:=by
 cases x<;>first|exact k|exact⟨CO k.1 h,k.2⟩
def AR.mono{pl:Aw}{b a:Nat}(h:b<=a){x:A}{v:Value}(k:AR pl b x v):AR pl a x v:=by
 cases x with
 |c x=>exact CR.mono h k
 |ag f=>obtain⟨e,rfl,d⟩:=k;exact⟨e,rfl,d.mono λ_ _=>CR.mono h⟩
def VR.mono{pl:Aw}{e b:Nat}(h:e<=b){x:V}{v:Value}(k:VR pl e x v):VR pl b x v:=by
 cases x with
 |un=>trivial
 |a x=>exact AR.mono h k
 |tp g=>obtain⟨d,rfl,c⟩:=k;exact⟨d,rfl,c.mono λ_ _=>AR.mono h⟩
 |fn f g=>obtain⟨d,rfl,c⟩:=k;exact⟨d,rfl,c.mono λ_ _=>AR.mono h⟩
 |sb r n=>exact⟨CO k.1 h,k.2⟩
def FO(b:Nat)(pl a:Aw):Prop:=∀r p,r<b->a r p=pl r p
def CR.agree{pl a:Aw}{b:Nat}(h:FO b pl a){x:C}{v:Value}(k:CR pl b x v):CR a b x v:=by
 cases x with
 |rf r p e d n=>exact⟨k.1,by rw[h r p k.1];exact k.2⟩
 |pe r p i c=>exact⟨k.1,by rw[h r p k.1];exact k.2⟩
 |pb r c=>exact⟨k.1,by rw[h r [] k.1];exact k.2⟩
 |_=>exact k
def AR.agree{pl a:Aw}{b:Nat}(h:FO b pl a){x:A}{v:Value}(k:AR pl b x v):AR a b x v:=by
 cases x with
 |c x=>exact CR.agree h k
 |ag f=>obtain⟨e,rfl,d⟩:=k;exact⟨e,rfl,d.mono λ_ _=>CR.agree h⟩
def VR.agree{pl b:Aw}{d:Nat}(h:FO d pl b){x:V}{v:Value}(k:VR pl d x v):VR b d x v:=by
 cases x with
 |un=>trivial
 |a x=>exact AR.agree h k
 |tp g=>obtain⟨e,rfl,c⟩:=k;exact⟨e,rfl,c.mono λ_ _=>AR.agree h⟩
 |fn f g=>obtain⟨e,rfl,c⟩:=k;exact⟨e,rfl,c.mono λ_ _=>AR.agree h⟩
 |sb r n=>exact⟨k.1,by rw[h r [] k.1];exact k.2⟩
end Go.Vs
namespace Go.Vs
variable [Glb]
inductive Opd where
 |t (n:Nat)
 |k (v:V)
 deriving Inhabited
def Zw(P:Program):Nat->TypeId->List TypeId
 |0,t=>[t]
 |n+1,t=>
  match P.underlying t with
  |some (.struct fs)=>fs.toList.flatMap λf=>Zw P n f.type
  |some (.array k e)=>(List.range k).flatMap λ_=>Zw P n e
  |_=>[t]
def Za5(P:Program)(t:TypeId):Nat:=
 match P.underlying t with
 |some (.slice e)=>P.cellsOf e
 |_=>0
def Vl(P:Program)(t:TypeId):Value->C
 |.slice none 0 0=>.nl (Za5 P t)
 |v=>if v.oneCell' then .lf v else .un
def Vm(P:Program):List TypeId->List Value->List C
 |t::b,v::a=>Vl P t v::Vm P b a
 |[],v::a=>Vl P 0 v::Vm P [] a
 |_,[]=>[]
def fe(P:Program)(t:TypeId):Value->V
 |.agg b=>if b.all (·.oneCell') then .a (.ag (Vm P (Zw P 8 t) b.toList)) else .un
 |v=>if v.oneCell' then .a (.c (Vl P t v)) else .un
def fc(P:Program)(t:TypeId)(pl:Aw)(a:Nat)(v:Value)(h:v.oneCell'=true):CR pl a (Vl P t v) v:=by
 unfold Vl;split
 .exact rfl
 rw[Af h];exact⟨rfl,h⟩
def Z6(P:Program)(pl:Aw)(a:Nat):∀(c:List TypeId) (l:List Value),(∀v∈l,v.oneCell'=true)->Ai (CR pl a) (Vm P c l) l
 |[],[],_=>trivial
 |_::_,[],_=>trivial
 |[],v::l,h=>⟨fc P 0 pl a v (h v (by simp)),Z6 P pl a [] l λu b=>h u (by simp[b])⟩
 |t::c,v::l,h=>⟨fc P t pl a v (h v (by simp)),Z6 P pl a c l λu b=>h u (by simp[b])⟩
def yK(P:Program)(t:TypeId)(pl:Aw)(a:Nat)(v:Value):VR pl a (fe P t v) v:=by
 unfold fe;split
 .rename_i b;split
  .rename_i h;exact⟨b.toList,by simp,Z6 P pl a _ _ λu c=>by simpa using (U2.1 h) u (by simpa using c)⟩
  trivial
 split
 .rename_i h;exact fc P t pl a v h
 trivial
def BL(P:Program)(t:TypeId):Operand->Option Opd
 |.tmp t=>some (.t t)
 |.const v=>some (.k (fe P t v))
 |.global g=>some (.k (.a (.c (.lf (.pointer (some ⟨g,0,none⟩))))))
 |.func f=>some (.k (.fn f []))
def St.opd(S:St):Opd->V
 |.t n=>(get S.env n).getD .un
 |.k v=>v
def Cc{N w0 own0 pl0 g pl S a w}(h:Rel N w0 own0 pl0 g pl S a w){P:Program}{ty:TypeId}{x:Operand}{y:Opd}(b:BL P ty x=some y):VR pl S.next (S.opd y) (a.eval x):=by
 cases x with
 |tmp t=>
  simp only[BL,Ac]at b;subst b;simp only[St.opd,Act.eval];cases c:get S.env t with
  |none=>trivial
  |some v=>exact h.env t v c
 |const v=>simp only[BL,Ac]at b;subst b;exact yK P ty pl S.next v
 |global g=>
  simp only[BL,Ac]at b;subst b;exact⟨rfl,rfl⟩
 |func f=>simp only[BL,Ac]at b;subst b;exact⟨[],rfl,trivial⟩
inductive M where
 |rd
 |rx
 |ow
 |io
 deriving DecidableEq,Inhabited
def SH(P:Program):List Field->Nat->Bool
 |[],_=>true
 | f :: fs, i => decide (f.name ≠ "_") && decide (f.offset = i) && (match P.underlying f.type with | some (.int .i64) => true | _ => false) && SH P fs (i + 1)
inductive I where
 |mv (x:Opd)
 |pick (c a b:Opd)
 |load (n:Option Nat) (x:Opd)
 |nilc (x:Opd)
 |bin (op:BinOp) (x y:Opd)
 |beq (neg:Bool) (x y:Opd)
 |aeq (neg:Bool) (n:Nat) (x y:Opd)
 |un (op:UnOp) (x:Opd)
 |conv (k:IntKind) (x:Opd)
 |b2s (x:Opd)
 |slc (sz:Nat) (x:Opd) (lo hi:Option Opd)
 |ssl (x:Opd) (lo hi:Option Opd)
 |fld (off:Nat) (n:Option Nat) (x:Opd)
 |fad (off:Nat) (x:Opd)
 |iad (sz:Nat) (x i:Opd)
 |iaa (len sz:Nat) (x i:Opd)
 |idx (x i:Opd)
 |ixa (len:Nat) (n:Option Nat) (sz:Nat) (x i:Opd)
 |ext (i:Nat) (x:Opd)
 |len (x:Opd)
 |sln (x:Opd)
 |sid (x:Opd)
 |build (zero:List C) (parts:List (Nat×Nat×Opd))
 |mkf (f:FuncId) (caps:List Opd)
 deriving Inhabited
inductive W where
 |alloc (zero:List C)
 |box (x:Opd)
 |lit (sz len:Nat) (zero:List C) (parts:List (Nat×Opd))
 |store (n:Nat) (x v:Opd)
 |s2b (x:Opd)
 |mks (sz bytes:Nat) (zero:List C) (l c:Opd)
 |app (sz bytes:Nat) (zero:List C) (x y:Opd)
 |aps (zero:List C) (x y:Opd)
 |clr (sz:Nat) (zero:List C) (x:Opd)
 |call (f:FuncId) (args:List Opd)
 |calv (f:Opd) (args:List Opd)
 deriving Inhabited
inductive J where
 |rd (i:I)
 |wr (j:W)
 deriving Inhabited
structure GI where
 dst:Option Nat
 op:J
 guard:Option (Nat×Bool)
 deriving Inhabited
def MP:TypeDesc->Bool
 |.struct _|.array _ _=>true
 |_=>false
def L9(P:Program)(t:TypeId)(v:Value):Option (List C):=if v.cells.all (·.oneCell') then some (Vm P (Zw P 8 t) v.cells.toList) else none
def JT(P:Program):List TypeId->List Operand->Option (List Opd)
 |_,[]=>some []
 |[],x::l=>do some ((<- BL P 0 x)::(<- JT P [] l))
 |t::a,x::l=>do some ((<- BL P t x)::(<- JT P a l))
def Xc(P:Program)(t:TypeId):List (Nat×Operand)->Option (List (Nat×Opd))
 |[]=>some []
 |(i,x)::l=>do some ((i,<-BL P t x)::(<- Xc P t l))
def I4(P:Program):Option Operand->Option (Option Opd)
 |none=>some none
 |some x=>(BL P 0 x).map some
def QG(P:Program)(t:TypeId):Option (Option Nat):=do
 let d <- P.underlying t
 let i <- P.info? t
 some (if MP d then some i.size else none)
def Xb(P:Program)(fs:Array Field):List (Nat×Operand)->Option (List (Nat×Nat×Opd))
 |[]=>some []
 |(i,x)::l=>do
  let f <- fs[i]?
  let j <- P.info? f.type
  some ((f.offset,j.size,<-BL P f.type x)::(<- Xb P fs l))
def Xa(P:Program)(e:TypeId)(a:Nat):List (Nat×Operand)->Option (List (Nat×Nat×Opd))
 |[]=>some []
 |(i,x)::l=>do some ((i*a,a,<-BL P e x)::(<- Xa P e a l))
def Dy(P:Program)(ty:TypeId):Op->Option I
 |.move x|.assign x=>(BL P ty x).map .mv
 |.pick c a b=>do some (.pick (<- BL P 0 c) (<- BL P ty a) (<- BL P ty b))
 |.build t parts=>do
  let i <- P.info? t
  let z <- i.zero
  match P.underlying t with
  |some (.struct fs)=>if (fs.all λf=>(P.info? f.type).isSome) then some (.build (<- L9 P t z) (<- Xb P fs parts.toList)) else none
  |some (.array _ e)=>do
   let j <- P.info? e
   some (.build (<- L9 P t z) (<- Xa P e j.size parts.toList))
  |_=>none
 |.load t x=>do some (.load (<- QG P t) (<- BL P 0 x))
 |.nilCheck x=>(BL P 0 x).map .nilc
 |.binOp op t x y _=>
  match P.underlying t,op with
  |some .bool,.eql=>do some (.beq false (<- BL P 0 x) (<- BL P 0 y))
  |some .bool,.neq=>do some (.beq true (<- BL P 0 x) (<- BL P 0 y))
  |some (.struct fs),.eql=>if SH P fs.toList 0&&(!P.eqGuardType P.depth t&&!P.stoodInHeld t) then do some (.aeq false fs.size (<- BL P 0 x) (<- BL P 0 y)) else none
  |some (.struct fs),.neq=>if SH P fs.toList 0&&(!P.eqGuardType P.depth t&&!P.stoodInHeld t) then do some (.aeq true fs.size (<- BL P 0 x) (<- BL P 0 y)) else none
  |_,_=>do some (.bin op (<- BL P 0 x) (<- BL P 0 y))
 |.unOp op _ x=>(BL P 0 x).map (.un op)
 |.convert s d x=>do
  let x <- BL P s x
  match P.underlying s,P.underlying d with
  |some (.int _),some (.int k)=>some (.conv k x)
  |some (.slice e),some .string=>match P.underlying e with|some (.int .u8)=>some (.b2s x)|_=>none
  |some .string,some .string=>some (.sid x)
  |_,_=>none
 |.slice t x lo hi none=>
  match P.underlying t with
  |some (.slice e)=>do
   let i <- P.info? e
   some (.slc i.size (<- BL P 0 x) (<- I4 P lo) (<- I4 P hi))
  |some .string=>do some (.ssl (<- BL P 0 x) (<- I4 P lo) (<- I4 P hi))
  |_=>none
 |.fieldAddr s x f=>
  match P.underlying s with
  |some (.struct fs)=>do
   let f <- fs[f]?
   let i <- P.info? f.type
   if i.size=0 then none else some (.fad f.offset (<- BL P 0 x))
  |_=>none
 |.field s x f=>
  match P.underlying s with
  |some (.struct fs)=>do
   let f <- fs[f]?
   some (.fld f.offset (<- QG P f.type) (<- BL P 0 x))
  |_=>none
 |.indexAddr t x i=>
  match P.underlying t with
  |some (.slice e)=>do
   let j <- P.info? e
   some (.iad j.size (<- BL P 0 x) (<- BL P 0 i))
  |some (.array n e)=>do
   let j <- P.info? e
   some (.iaa n j.size (<- BL P 0 x) (<- BL P 0 i))
  |_=>none
 |.index t x i=>
  match P.underlying t with
  |some .string=>do some (.idx (<- BL P 0 x) (<- BL P 0 i))
  |some (.array n e)=>do
   let j <- P.info? e
   some (.ixa n (<- QG P e) j.size (<- BL P 0 x) (<- BL P 0 i))
  |_=>none
 |.extract t i=>(BL P 0 t).map (.ext i)
 |.makeFunc (.func f) first caps=>if first.size=0 then (JT P [] caps.toList).map (.mkf f) else none
 |.call { callee:=.builtin .len,args,argTypes }=>
  match args.toList,argTypes.toList with
  |[x],[t]=>match P.underlying t with
   |some (.slice _)=>(BL P t x).map .len
   |some .string=>(BL P t x).map .sln
   |_=>none
  |_,_=>none
 |_=>none
def E1(P:Program):Op->Option W
 |.alloc e=>do
  let i <- P.info? e
  let z <- i.zero
  some (.alloc (<- L9 P e z))
 |.box e x=>(BL P e x).map .box
 |.buildSlice t len parts=>
  match P.underlying t with
  |some (.slice e)=>do
   let i <- P.info? e
   let z <- i.zero
   let zc <- L9 P e z
   if zc.length=i.size/\len*i.size<=2^24/\0<i.size then some (.lit i.size len zc (<- Xc P e parts.toList)) else none
  |_=>none
 |.store t x v=>do
  let i <- P.info? t
  some (.store i.size (<- BL P 0 x) (<- BL P t v))
 |.convert s d x=>do
  let x <- BL P s x
  match P.underlying s,P.underlying d with
  |some .string,some (.slice e)=>match P.underlying e with|some (.int .u8)=>some (.s2b x)|_=>none
  |_,_=>none
 |.makeSlice t l c=>
  match P.underlying t with
  |some (.slice e)=>do
   let i <- P.info? e
   let z <- i.zero
   let zc <- L9 P e z
   if zc.length=i.size/\0<i.size then some (.mks i.size i.bytes zc (<- BL P 0 l) (<- BL P 0 c)) else none
  |_=>none
 |.call { callee:=.builtin .append,args,argTypes }=>
  match args.toList,argTypes.toList with
  |[x,y],[t,u]=>match P.underlying t,P.underlying u with
   |some (.slice e),some (.slice _)=>do
    let i <- P.info? e
    let z <- i.zero
    let zc <- L9 P e z
    if zc.length=i.size/\0<i.size/\0<i.bytes then some (.app i.size i.bytes zc (<- BL P t x) (<- BL P u y)) else none
   |some (.slice e),some .string=>do
    let i <- P.info? e
    let z <- i.zero
    let zc <- L9 P e z
    if zc.length=1/\i.size=1/\i.bytes=1 then some (.aps zc (<- BL P t x) (<- BL P u y)) else none
   |_,_=>none
  |_,_=>none
 |.call { callee:=.builtin .clear,args,argTypes }=>
  match args.toList,argTypes.toList with
  |[x],[t]=>match P.underlying t with
   |some (.slice e)=>do
    let i <- P.info? e
    let z <- i.zero
    let zc <- L9 P e z
    if zc.length=i.size/\0<i.size then some (.clr i.size zc (<- BL P t x)) else none
   |_=>none
  |_,_=>none
 |.call { callee:=.value (.func f),args,argTypes }=>
  match P.funcs[f]? with
  | some fn => if fn.body.isSome && fn.name != "runtime.NumGoroutine" then (JT P argTypes.toList args.toList).map (.call f) else none
  |none=>none
 |.call { callee:=.value (.tmp t),args,argTypes }=>do some (.calv (.t t) (<- JT P argTypes.toList args.toList))
 |_=>none
def St.node(S:St)(r:Nat)(p:Ao):Option (Nat×List (List D)):=
 match get S.roots r with
 |some (.tr b a)=>AH b a p
 |some (.im b a)=>AH b a p
 |_=>none
def St.bcells(S:St)(r:Nat):Option (List C):=
 match get S.roots r with
 |some (.bx a)=>some a
 |some (.ib a)=>some a
 |_=>none
def Be(r:Nat)(p:Ao)(i c:Nat):D->C
 |.lf v=>.lf v
 |.sl b a=>.rf r (p++[(i,c)]) b 0 a.length
 |.hole=>.un
def AM(r:Nat)(p:Ao)(i:Nat):Nat->List D->List C
 |_,[]=>[]
 |c,d::a=>Be r p i c d::AM r p i (c+1) a
def LR:BinOp->Value->Value->Option Value
 |.shl,.int k a,.int _ b=>if 0<=b then some (.int k (k.wrap (a*2^(min b.toNat k.bits)))) else none
 |.shr,.int k a,.int _ b=>if 0<=b then some (.int k (a.fdiv (2^(min b.toNat k.bits)))) else none
 |.add,.int k a,.int c b=>if k=c then some (.int k (k.wrap (a+b))) else none
 |.sub,.int k a,.int c b=>if k=c then some (.int k (k.wrap (a-b))) else none
 |.mul,.int k a,.int c b=>if k=c then some (.int k (k.wrap (a*b))) else none
 |.quo,.int k a,.int c b=>if k=c/\b≠0 then some (.int k (k.wrap (a.tdiv b))) else none
 |.rem,.int k a,.int c b=>if k=c/\b≠0 then some (.int k (a.tmod b)) else none
 |.and,.int k a,.int c b=>if k=c then some (.int k (k.wrap (BitVec.ofInt k.bits a&&&BitVec.ofInt k.bits b).toNat)) else none
 |.or,.int k a,.int c b=>if k=c then some (.int k (k.wrap (BitVec.ofInt k.bits a ||| BitVec.ofInt k.bits b).toNat)) else none
 |.xor,.int k a,.int c b=>if k=c then some (.int k (k.wrap (BitVec.ofInt k.bits a ^^^ BitVec.ofInt k.bits b).toNat)) else none
 |.andNot,.int k a,.int c b=>if k=c then some (.int k (k.wrap (BitVec.ofInt k.bits a&&&~~~BitVec.ofInt k.bits b).toNat)) else none
 |.eql,.int k a,.int c b=>if k=c then some (.bool (a==b)) else none
 |.neq,.int k a,.int c b=>if k=c then some (.bool (a != b)) else none
 |.lss,.int k a,.int c b=>if k=c then some (.bool (decide (a<b))) else none
 |.leq,.int k a,.int c b=>if k=c then some (.bool (decide (a<=b))) else none
 |.gtr,.int k a,.int c b=>if k=c then some (.bool (decide (a > b))) else none
 |.geq,.int k a,.int c b=>if k=c then some (.bool (decide (a ≥ b))) else none
 |.add,.string a,.string b=>if a.size+b.size<9223372036854775808 then some (.string (a++b)) else none
 |.eql,.string a,.string b=>some (.bool (a.toList==b.toList))
 |.neq,.string a,.string b=>some (.bool (!(a.toList==b.toList)))
 |.lss,.string a,.string b=>some (.bool (Op.bytesLess a.toList b.toList))
 |.leq,.string a,.string b=>some (.bool (Op.bytesLess a.toList b.toList||a.toList==b.toList))
 |.gtr,.string a,.string b=>some (.bool (!(Op.bytesLess a.toList b.toList||a.toList==b.toList)))
 |.geq,.string a,.string b=>some (.bool (!Op.bytesLess a.toList b.toList))
 |_,_,_=>none
def Zju{P : Program}{d : BinOp}{t : TypeId}{x y : Operand}{u v r : Value}(h : LR d u v = some r)(w : World):
    (do eqGuard d t x y u v; binOp d t u v : Sem Value).run P w = .ok r w := by
  unfold LR at h;split at h
  case h_18 a b=>
    split at h
    · rename_i c
      simp only[Ac] at h; subst h;simp only[eqGuard, binOp, Op.stringOp, Sem.run_bind];have e : ¬ (((a.size + b.size : Nat) : Int) > IntKind.i64.max) := by rw[show IntKind.i64.max = 9223372036854775807 from rfl]; omega
      rw[Ae e];simp
    simp at h
  all_goals first
    |(simp at h; done)
    | (split at h
       · rename_i c
         simp only[Ac] at h; subst h
         first
          |(obtain ⟨rfl, f⟩ := c; simp[eqGuard, binOp, Op.intDiv, f]; done)
          |(subst c; simp[eqGuard, binOp, Op.intArith, Op.intBits, Op.intCmp]; done)
          |(simp[eqGuard, binOp, Op.shift, Eb.2 c]; done)
       · simp at h)
    | (simp only [Ac] at h; subst h
       simp[eqGuard, binOp, Op.stringOp]; done)
def iz:UnOp->Value->Option Value
 |.not,.bool b=>some (.bool (!b))
 |.neg,.int k n=>some (.int k (k.wrap (0-n)))
 |_,_=>none
end Go.Vs
namespace Go.Vs
variable [Glb]
def EA(a:List (Nat×Root))(r:Nat)(p:Ao):Option (Nat×List (List D)):=
 match get a r with
 |some (.tr c b)=>AH c b p
 |some (.im c b)=>AH c b p
 |_=>none
def OW(S:St)(r:Nat)(p:Ao):S.node r p=EA S.roots r p:=rfl
def Vd(a:List (Nat×Root))(r:Nat):Option (List C):=
 match get a r with
 |some (.bx b)=>some b
 |some (.ib b)=>some b
 |_=>none
section
variable {w0:World} {own0:Nat->Nat->Prop} {pl0:Aw} {g:Bp} {pl:Aw} {roots:List (Nat×Root)} {nx fix:Nat} {w:World}
def Hp.node{f:Nat}(h:Hp w0 own0 pl0 g pl roots nx f fix w){r:Nat}{p:Ao}{n:Nat×List (List D)}(c:EA roots r p=some n):
  r<nx/\NodeC w pl r p n.1 n.2:=by
 unfold EA at c;split at c
 .rename_i i e d;obtain⟨a,b⟩:=h.roots r _ d;exact⟨a,(b p n c).1⟩
 .rename_i i e d;obtain⟨a,b⟩:=h.roots r _ d;exact⟨a,(b p n c).1⟩
 simp at c
def sP{r:Nat}{p:Ao}{n:Nat×List (List D)}(a:EA roots r p=some n)(i c:Nat):
  EA roots r (p++[(i,c)])=match (n.2[i]?).bind (·[c]?) with|some (.sl e d)=>some (e,d)|_=>none:=by
 unfold EA at a ⊢;cases b:get roots r with
 |none=>simp[b]at a
 |some x=>
  cases x with
  |tr j h=>simp only[b]at a ⊢;exact bI a i c
  |im j h=>simp only[b]at a ⊢;exact bI a i c
  |bx f=>simp[b]at a
  |ib f=>simp[b]at a
def Hp.toC_ok(h:Hp w0 own0 pl0 g pl roots nx nx fix w){r:Nat}{p:Ao}{n:Nat×List (List D)}(k:EA roots r p=some n){i c:Nat}{e:List D}{d:D}
  (j:n.2[i]?= some e) (hd:e[c]?= some d) {v:Value} (a:DV (pl r (p++[(i,c)])) d v):CR pl nx (Be r p i c d) v:=by
 cases d with
 |lf x=>exact a
 |hole=>exact a
 |sl o m=>
  have f:=sP k i c;simp only[j,DF,hd]at f;obtain⟨l,b⟩:=h.node f;refine⟨l,a.1,b.nil,by simpa using b.le,_, ?_,λ_=>rfl⟩;rw[a.2];simp[LJ,Pl.base]
def Hp.cell(h:Hp w0 own0 pl0 g pl roots nx nx fix w){r:Nat}{p:Ao}{n:Nat×List (List D)}(j:EA roots r p=some n){i c:Nat}{e:List D}{d:D}
  (f:n.2[i]?= some e) (hd:e[c]?= some d):∃v,w.cell? ⟨(pl r p).b,(pl r p).off+(i*(pl r p).sz+c),none⟩=some v/\CR pl nx (Be r p i c d) v:=by
 obtain⟨_,a⟩:=h.node j;obtain⟨v,l,k⟩:=a.cells i e c d f hd;exact⟨v,by rw[a.szp];exact l,h.toC_ok j f hd k⟩
def Hp.cellsFrom(h:Hp w0 own0 pl0 g pl roots nx nx fix w){r:Nat}{p:Ao}{n:Nat×List (List D)}(s:EA roots r p=some n){i:Nat}{e:List D}
  (o:n.2[i]?= some e):∀(a:List D) (c:Nat),(∀k d,a[k]?= some d->e[c+k]?= some d) ->
  ∃f:List Value,f.length=a.length/\(∀j v,f[j]?= some v->w.cell? ⟨(pl r p).b,(pl r p).off+(i*(pl r p).sz+(c+j)),none⟩=some v)/\Ai (CR pl nx) (AM r p i c a) f
 |[],c,_=>⟨[],rfl,by simp,trivial⟩
 |d::a,c,q=>by
  obtain⟨v,A,y⟩:=h.cell s o (q 0 d rfl);obtain⟨f,z,m,t⟩:=Hp.cellsFrom h s o a (c+1) (λk x B=>by rw[show c+1+k=c+(k+1) by omega];exact q (k+1) x (by simpa using B));refine⟨v::f,by simp[z], ?_,y,t⟩;intro j u l;cases j with
  |zero=>simp at l;subst l;exact A
  |succ j=>have:=m j u (by simpa using l);rwa[show c+1+j=c+(j+1) by omega]at this
def Hp.box(h:Hp w0 own0 pl0 g pl roots nx nx fix w){r:Nat}{i:List C}(d:Vd roots r=some i){c:Nat}{x:C}(j:i[c]?= some x):
  ∃v,w.cell? ⟨(pl r []).b,(pl r []).off+c,none⟩=some v/\CR pl nx x v:=by
 unfold Vd at d;split at d
 .rename_i e f;simp only[Ac]at d;subst d;obtain⟨v,a,b,_⟩:=(h.roots r _ f).2 c x j;exact⟨v,a,b⟩
 .rename_i e f;simp only[Ac]at d;subst d;obtain⟨v,a,b,_⟩:=(h.roots r _ f).2 c x j;exact⟨v,a,b⟩
 simp at d
def Hp.boxFrom(h:Hp w0 own0 pl0 g pl roots nx nx fix w){r:Nat}{cs:List C}(l:Vd roots r=some cs):∀(d:List C) (c:Nat),(∀k x,d[k]?= some x->cs[c+k]?= some x) ->
  ∃a:List Value,a.length=d.length/\(∀j v,a[j]?= some v->w.cell? ⟨(pl r []).b,(pl r []).off+(c+j),none⟩=some v)/\Ai (CR pl nx) d a
 |[],c,_=>⟨[],rfl,by simp,trivial⟩
 |x::d,c,i=>by
  obtain⟨v,p,n⟩:=h.box l (i 0 x rfl);obtain⟨a,o,f,m⟩:=Hp.boxFrom h l d (c+1) (λk x q=>by rw[show c+1+k=c+(k+1) by omega];exact i (k+1) x (by simpa using q));refine⟨v::a,by simp[o], ?_,n,m⟩;intro j u e;cases j with
  |zero=>simp at e;subst e;exact p
  |succ j=>have:=f j u (by simpa using e);rwa[show c+1+j=c+(j+1) by omega]at this
end
def LH{α:Type}{l b:List α}{c n:Nat}(h:b=(l.drop c).take n):∀(k:Nat) (x:α),b[k]?= some x->l[c+k]?= some x:=by
 intro k x a;subst h;rw[EM]at a;split at a
 .simpa using a
 simp at a
def Qa:List (List D)->Option (List UInt8)
 |[]=>some []
 |[.lf (.int .u8 z)]::l=>(Qa l).map (UInt8.ofNat z.toNat::·)
 |_=>none
def Ov:V->Option (List C)
 |.a (.c x)=>some [x]
 |.a (.ag b)=>some b
 |_=>none
def Ie(S:St):List C->List (Nat×Nat×Opd)->Option (List C)
 |b,[]=>some b
 |b,(a,d,x)::c=>
  match Ov (S.opd x) with
  |some e=>if e.length=d/\a+d<=b.length then Ie S (b.take a++(e++b.drop (a+d))) c else none
  |none=>none
def KM:List V->Option (List A)
 |[]=>some []
 |.a x::l=>(KM l).map (x::·)
 |_=>none
def ev(S:St)(K:V->Prop):I->Prop
 |.mv x=>K (S.opd x)
 |.pick c a b=>match S.opd c with
  |.a (.c (.lf (.bool t)))=>(t=true->K (S.opd a))/\(t=false->K (S.opd b))
  |_=>False
 |.load none x=>match S.opd x with
  |.a (.c (.pe r p i c))=>∃d,((S.node r p).bind λn=>(n.2[i]?).bind (·[c]?))=some d/\K (.a (.c (Be r p i c d)))
  |.a (.c (.pb r c))=>∃x,((S.bcells r).bind (·[c]?))=some x/\K (.a (.c x))
  |.a (.c (.lf (.pointer (some ⟨b,o,none⟩))))=>∃v,GU b o=some v/\K (.a (.c (.lf v)))
  |_=>False
 |.load (some m) x=>match S.opd x with
  |.a (.c (.pe r p i c))=>∃e,((S.node r p).bind λn=>n.2[i]?)=some e/\c+m<=e.length/\K (.a (.ag (AM r p i c ((e.drop c).take m))))
  |.a (.c (.pb r c))=>∃q,S.bcells r=some q/\c+m<=q.length/\K (.a (.ag ((q.drop c).take m)))
  |.a (.c (.lf (.pointer (some ⟨b,o,none⟩))))=>∃D,Qv b o m=some D/\K (.a (.ag (D.map .lf)))
  |_=>False
 |.nilc x=>match S.opd x with
  |.a (.c (.pe r p i c))=>K (.a (.c (.pe r p i c)))
  |.a (.c (.pb r c))=>K (.a (.c (.pb r c)))
  |_=>False
 |.bin H x y=>match S.opd x,S.opd y with
  |.a (.c (.lf u)),.a (.c (.lf v))=>∃r,LR H u v=some r/\K (.a (.c (.lf r)))
  |_,_=>False
 |.beq neg x y=>match S.opd x,S.opd y with
  |.a (.c (.lf (.bool u))),.a (.c (.lf (.bool v)))=>K (.a (.c (.lf (.bool (if neg then u != v else u==v)))))
  |_,_=>False
 |.aeq neg n x y=>match S.opd x,S.opd y with
  |.a (.ag q),.a (.ag N)=>∃F D:List Int,q=F.map (λz=>C.lf (.int .i64 z))/\N=D.map (λz=>C.lf (.int .i64 z))/\F.length=n/\D.length=n/\K (.a (.c (.lf (.bool (if neg then !(F==D) else F==D)))))
  |_,_=>False
 |.un H x=>match S.opd x with
  |.a (.c (.lf u))=>∃r,iz H u=some r/\K (.a (.c (.lf r)))
  |_=>False
 |.conv k x=>match S.opd x with
  |.a (.c (.lf (.int _ z)))=>K (.a (.c (.lf (.int k (k.wrap z)))))
  |_=>False
 |.b2s x=>match S.opd x with
  |.a (.c (.rf r p 1 w n))=>∃l,((S.node r p).bind λm=>if w+n<=m.2.length then Qa ((m.2.drop w).take n) else none)=some l/\K (.a (.c (.lf (.string ⟨l.toArray⟩))))
  |.a (.c (.nl _))=>K (.a (.c (.lf (.string .empty))))
  |_=>False
 |.slc L x w G=>match S.opd x,w.map S.opd,G.map S.opd with
  |.a (.c (.rf r p j A n)),some (.a (.c (.lf (.int _ l)))),some (.a (.c (.lf (.int _ h))))=>L=j/\(0<=l/\l<=h/\h<=n)/\K (.a (.c (.rf r p j (A+l.toNat) (h.toNat-l.toNat))))
  |.a (.c (.rf r p j A n)),some (.a (.c (.lf (.int _ l)))),none=>L=j/\(0<=l/\l<=n)/\K (.a (.c (.rf r p j (A+l.toNat) (n-l.toNat))))
  |.a (.c (.rf r p j A n)),none,some (.a (.c (.lf (.int _ h))))=>L=j/\(0<=h/\h<=n)/\K (.a (.c (.rf r p j A h.toNat)))
  |.a (.c (.rf r p j A n)),none,none=>K (.a (.c (.rf r p j A n)))
  |_,_,_=>False
 |.ssl x w G=>match S.opd x,w.map S.opd,G.map S.opd with
  |.a (.c (.lf (.string s))),some (.a (.c (.lf (.int _ l)))),some (.a (.c (.lf (.int _ h))))=>(0<=l/\l<=h/\h<=s.size)/\K (.a (.c (.lf (.string (s.extract l.toNat h.toNat)))))
  |.a (.c (.lf (.string s))),some (.a (.c (.lf (.int _ l)))),none=>(0<=l/\l<=s.size)/\K (.a (.c (.lf (.string (s.extract l.toNat s.size)))))
  |.a (.c (.lf (.string s))),none,some (.a (.c (.lf (.int _ h))))=>(0<=h/\h<=s.size)/\K (.a (.c (.lf (.string (s.extract 0 h.toNat)))))
  |_,_,_=>False
 |.fld g none x=>match S.opd x with
  |.a (.ag q)=>∃y,q[g]?= some y/\K (.a (.c y))
  |_=>False
 |.fld g (some m) x=>match S.opd x with
  |.a (.ag q)=>g+m<=q.length/\K (.a (.ag ((q.drop g).take m)))
  |_=>False
 |.fad g x=>match S.opd x with
  |.a (.c (.pe r p i c))=>K (.a (.c (.pe r p i (c+g))))
  |.a (.c (.pb r c))=>K (.a (.c (.pb r (c+g))))
  |.a (.c (.lf (.pointer (some ⟨b,o,none⟩))))=>K (.a (.c (.lf (.pointer (some ⟨b,o+g,none⟩)))))
  |_=>False
 |.iad j x i=>match S.opd x,S.opd i with
  |.a (.c (.rf r p J w n)),.a (.c (.lf (.int _ z)))=>J=j/\(0<=z/\z<n)/\K (.a (.c (.pe r p (w+z.toNat) 0)))
  |_,_=>False
 |.iaa len j x i=>match S.opd x,S.opd i with
  |.a (.c (.pb r c)),.a (.c (.lf (.int _ z)))=>(0<=z/\z<len)/\K (.a (.c (.pb r (c+z.toNat*j))))
  |.a (.c (.lf (.pointer (some ⟨b,o,none⟩)))),.a (.c (.lf (.int _ z)))=>(0<=z/\z<len)/\K (.a (.c (.lf (.pointer (some ⟨b,o+z.toNat*j,none⟩)))))
  |_,_=>False
 |.idx x i=>match S.opd x,S.opd i with
  |.a (.c (.lf (.string s))),.a (.c (.lf (.int _ z)))=>0<=z/\∃b:UInt8,s[z.toNat]?= some b/\K (.a (.c (.lf (.int .u8 b.toNat))))
  |_,_=>False
 |.ixa len none j x i=>match S.opd x,S.opd i with
  |.a (.ag q),.a (.c (.lf (.int _ z)))=>(0<=z/\z<len)/\∃y,q[z.toNat*j]?= some y/\K (.a (.c y))
  |_,_=>False
 |.ext i x=>match S.opd x with
  |.tp O=>∃y,O[i]?= some y/\K (.a y)
  |_=>False
 |.len x=>match S.opd x with
  |.a (.c (.rf _ _ _ _ n))=>K (.a (.c (.lf (.int .i64 n))))
  |.a (.c (.nl _))=>K (.a (.c (.lf (.int .i64 0))))
  |_=>False
 |.sid x=>match S.opd x with
  |.a (.c (.lf (.string s)))=>K (.a (.c (.lf (.string s))))
  |_=>False
 |.sln x=>match S.opd x with
  |.a (.c (.lf (.string s)))=>K (.a (.c (.lf (.int .i64 s.size))))
  |_=>False
 |.build zero B=>∃q,Ie S zero B=some q/\K (.a (.ag q))
 |.mkf f E=>∃M,KM (E.map S.opd)=some M/\K (.fn f M)
 |_=>False
end Go.Vs
namespace Go.Vs
variable [Glb]
variable {P:Program} {N:Nat} {w0:World} {own0:Nat->Nat->Prop} {pl0:Aw} {g:Bp} {pl:Aw} {S:St} {a:Act} {w:World} {K:V->Prop}
def Hx(P:Program)(pl:Aw)(b:Nat)(K:V->Prop)(s:Sem Value)(w:World):Prop:=∃v x,s.run P w=.ok v w/\VR pl b x v/\K x
def Ed{b:Nat}{s:Sem Value}{x:C}{v:Value}(d:K (.a (.c x)))(f:s.run P w=.ok v w)(e:CR pl b x v):Hx P pl b K s w:=⟨v,.a (.c x),f,e,d⟩
def Ss{c:Nat}{s:Sem Value}{b:List C}{vs:List Value}(d:K (.a (.ag b)))(f:s.run P w=.ok (.agg vs.toArray) w)(e:Ai (CR pl c) b vs):Hx P pl c K s w:=⟨_,.a (.ag b),f,⟨vs,rfl,e⟩,d⟩
def BQ{b:Nat}{x:C}{v:Value}(h:VR pl b (.a (.c x)) v):CR pl b x v:=h
def qZ{b o:Nat}{v:Value}(h:GU b o=some v):v.oneCell'=true:=by
 unfold GU at h;split at h
 .split at h
  .simp only[Ac]at h;subst h;rfl
  simp at h
 simp at h
def q0{pl:Aw}{nx:Nat}{w0:World}{own0:Nat->Nat->Prop}{w:World}(j:Fr w0 own0 w):∀(b o m:Nat){e:List Value},Qv b o m=some e->e.length=m/\(∀k v,e[k]?= some v->w.cell? ⟨b,o+k,none⟩=some v)/\Ai (CR pl nx) (e.map .lf) e
 |b,o,0,e,h=>by
  simp only[Qv,Ac]at h;subst h;exact⟨rfl,by simp,trivial⟩
 |b,o,m+1,e,h=>by
  simp only[Qv]at h;split at h
  .rename_i v n i l;simp only[Ac]at h;subst h;obtain⟨a,c,d⟩:=q0 j b (o+1) m l;refine⟨by simp[a], ?_,⟨rfl,qZ i⟩,d⟩;intro k u f;cases k with
   |zero=>simp only[AD,Ac]at f;subst f;exact j.glb i
   |succ k=>rw[show o+(k+1)=o+1+k by omega];exact c k u (by simpa using f)
  simp at h
def yh(E:Rel N w0 own0 pl0 g pl S a w){t:TypeId}{x:Operand}{ty:TypeId}{i:I}(Z:Dy P ty (.load t x)=some i)(h:ev S K i):
  Hx P pl S.next K (Instr.loadAt t (a.eval x)) w:=by
 simp only[Dy,QG,Bv,AO,Ac]at Z;obtain⟨sz,⟨d,hd,j,hj,rfl⟩,y,W,rfl⟩:=Z;have q:=Cc E W;by_cases H:MP d=true
 .simp only[H,BF]at h;have hA:∀A:Addr,Instr.loadAt t (.pointer (some A))=(do pure (.agg (<- loadCells A (<- sizeOf t))):Sem Value)\/True:=λ_=>.inr trivial;have f:∀(A:Addr) (C:List Value),C.length=j.size->(∀k v,C[k]?= some v->w.cell? (A.add k)=some v) ->
    (Instr.loadAt t (.pointer (some A))).run P w=.ok (.agg C.toArray) w:=by
   intro A C L Q;have X:=run_loadCells_list (P:=P) w A C Q;have:(isAgg t).run P w=.ok true w:=by
    simp only[isAgg,Sem.run_bind,run_underlying hd,Result.andThen];cases d<;>simp_all[MP]
   rw[L]at X;simp[Instr.loadAt,Instr.sureAddr,loadVar,this,sizeOf,typeInfo,hj,X]
  simp only[ev]at h;split at h
  .rename_i r p i c m;rw[m]at q;obtain⟨V,M,z⟩:=BQ q;obtain⟨e,D,T,s⟩:=h;rw[OW]at D;simp only[AO]at D;obtain⟨n,U,m⟩:=D;obtain⟨C,L,B,u⟩:=E.hp.cellsFrom U m ((e.drop c).take j.size) c (LH rfl);refine Ss s ?_ u;rw[z];refine f _ C (by rw[L];simp;omega) λk v J=>?_;have:=B k v J;rw[Addr.add_lit];rwa[FQ,FQ]
  .rename_i r c m;rw[m]at q;obtain⟨V,z⟩:=BQ q;obtain⟨O,G,T,s⟩:=h;obtain⟨C,L,B,u⟩:=E.hp.boxFrom (r:=r) (cs:=O) G ((O.drop c).take j.size) c (LH rfl);refine Ss s ?_ u;rw[z];refine f _ C (by rw[L];simp;omega) λk v J=>?_;have:=B k v J;rw[Addr.add_lit];rwa[FQ]
  .rename_i b o m;rw[m]at q;obtain⟨z,_⟩:=BQ q;obtain⟨C,B,s⟩:=h;obtain⟨g1,g2,g3⟩:=q0 (pl:=pl) (nx:=S.next) E.hp.fr _ _ _ B;refine Ss s ?_ g3;rw[z];exact f _ C g1 λk v J=>by rw[Addr.add_lit];exact g2 k v J
  exact h.elim
 simp only[H]at h;have f:∀(A:Addr) (v:Value),w.cell? A=some v->(Instr.loadAt t (.pointer (some A))).run P w=.ok v w:=by
  intro A v Q;have:(isAgg t).run P w=.ok false w:=by
   simp only[isAgg,Sem.run_bind,run_underlying hd,Result.andThen];cases d<;>simp_all[MP]
  simp[Instr.loadAt,Instr.sureAddr,loadVar,this,Q]
 simp only[C6,BC,ev]at h;split at h
 .rename_i r p i c m;rw[m]at q;obtain⟨V,M,z⟩:=BQ q;obtain⟨d,D,s⟩:=h;rw[OW]at D;simp only[AO]at D;obtain⟨n,U,e,m,R⟩:=D;obtain⟨v,l,F⟩:=E.hp.cell U m R;exact Ed s (by rw[z];exact f _ _ l) F
 .rename_i r c m;rw[m]at q;obtain⟨V,z⟩:=BQ q;obtain⟨y,D,s⟩:=h;simp only[AO]at D;obtain⟨O,G,W⟩:=D;obtain⟨v,l,F⟩:=E.hp.box (r:=r) G W;exact Ed s (by rw[z];exact f _ _ l) F
 .rename_i b o m;rw[m]at q;obtain⟨z,_⟩:=BQ q;obtain⟨v,Y,s⟩:=h;exact Ed s (by rw[z];exact f _ _ (E.hp.fr.glb Y)) ⟨rfl,qZ Y⟩
 exact h.elim
def tn:∀(fs:List Field) (i:Nat) (b c:List Int) (d:Nat),SH P fs i=true->b.length=i+fs.length->c.length=i+fs.length->(Op.eqFields (d+1) (b.map (Value.int .i64)).toArray (c.map (Value.int .i64)).toArray fs).run P w=.ok (b.drop i==c.drop i) w
 |[],i,b,c,d,_,m,n=>by
  rw[RG (by simpa using Nat.le_of_eq m),RG (by simpa using Nat.le_of_eq n)];rfl
 |f::fs,i,b,c,d,h,m,n=>by
  simp only[SH,A6,AA]at h;obtain⟨⟨⟨s,o⟩,p⟩,t⟩:=h;have l:P.underlying f.type=some (.int .i64):=by
   split at p
   .assumption
   cases p
  have k:P.plainKey f.type=true:=by unfold Program.plainKey;rw[l]
  simp only[Aq]at m n;have e:i<b.length:=by omega
  have j:i<c.length:=by omega
  have q:((b.map (Value.int .i64)).toArray)[f.offset]?= some (.int .i64 b[i]):=by rw[o];simp[e]
  have r:((c.map (Value.int .i64)).toArray)[f.offset]?= some (.int .i64 c[i]):=by rw[o];simp[j]
  have u:=tn fs (i+1) b c d t (by omega) (by omega);rw[H1 e,H1 j];simp only[Op.eqFields,Af s,Sem.run_bind,run_part_plain w k q,run_part_plain w k r,Result.andThen_ok,run_equalIn_int w d f.type .i64 .i64 _ _ l,List.cons_beq_cons];cases v:(b[i]==c[i]) with
  |true=>simp only[Od,C6,BC,I7];exact u
  |false=>simp only[RH,BF,M7,Sem.run_pure]
def VM{pl:Aw}{d:Nat}:∀{b:List Int}{c:List Value},Ai (CR pl d) (b.map (λz=>C.lf (.int .i64 z))) c->c=b.map (Value.int .i64)
 |[],[],_=>rfl
 |[],_::_,h=>h.elim
 |_::_,[],h=>h.elim
 |z::b,v::c,h=>by
  have:=h.1.1;rw[A2,<-VM h.2,this]
def tj{t:TypeId}{fs:Array Field}{d e:Operand}{b c:List Int}(j:P.underlying t=some (.struct fs))(i:(SH P fs.toList 0&&(!P.eqGuardType P.depth t&&!P.stoodInHeld t))=true)(l:b.length=fs.size)(m:c.length=fs.size):
  (do eqGuard .eql t d e (.agg (b.map (Value.int .i64)).toArray) (.agg (c.map (Value.int .i64)).toArray);binOp .eql t (.agg (b.map (Value.int .i64)).toArray) (.agg (c.map (Value.int .i64)).toArray):Sem Value).run P w=.ok (.bool (b==c)) w /\
  (do eqGuard .neq t d e (.agg (b.map (Value.int .i64)).toArray) (.agg (c.map (Value.int .i64)).toArray);binOp .neq t (.agg (b.map (Value.int .i64)).toArray) (.agg (c.map (Value.int .i64)).toArray):Sem Value).run P w=.ok (.bool (!(b==c))) w:=by
 simp only[A6,CV]at i;obtain⟨n,k,o⟩:=i;have h:P.fieldsOf t=fs:=by unfold Program.fieldsOf;rw[j]
 have f:(Op.equalIn 10000 t (.agg (b.map (Value.int .i64)).toArray) (.agg (c.map (Value.int .i64)).toArray)).run P w=.ok (b==c) w:=by
  rw[run_equalIn_struct w 9999 t _ _ (by rw[h];exact j) o,h];have:=tn (P:=P) (w:=w) fs.toList 0 b c 9998 n (by simpa using l) (by simpa using m);simpa using this
 constructor
 .simp only[Sem.run_bind,run_eqGuard_agg w .eql t d e _ _ k,Result.andThen_ok,run_eql_struct,f]
 simp only[Sem.run_bind,run_eqGuard_agg w .neq t d e _ _ k,Result.andThen_ok,run_neq_struct,f]
def y9(j : Rel N w0 own0 pl0 g pl S a w){E : BinOp}{t L : TypeId}{x y : Operand}{M : TypeId}{i : I}(d : Dy P M (.binOp E t x y L) = some i)(h : ev S K i):
    Hx P pl S.next K (do eqGuard E t x y (a.eval x) (a.eval y); binOp E t (a.eval x) (a.eval y)) w := by
  simp only[Dy] at d;split at d
  · rename_i p
    simp only[Bv, AO, Ac] at d;obtain ⟨A, n, B, o, rfl⟩ := d;have e := Cc j n;have f := Cc j o;simp only[ev] at h;split at h
    · rename_i u v l m
      rw[l] at e; rw[m] at f;obtain ⟨c, _⟩ := BQ e;obtain ⟨b, _⟩ := BQ f;rw[c, b];exact Ed h (by simp[eqGuard, binOp, run_equal_bool w t u v p]) ⟨rfl, rfl⟩
    exact h.elim
  · rename_i p
    simp only[Bv, AO, Ac] at d;obtain ⟨A, n, B, o, rfl⟩ := d;have e := Cc j n;have f := Cc j o;simp only[ev] at h;split at h
    · rename_i u v l m
      rw[l] at e; rw[m] at f;obtain ⟨c, _⟩ := BQ e;obtain ⟨b, _⟩ := BQ f;rw[c, b];exact Ed h (by simp[eqGuard, binOp, run_equal_bool w t u v p, bne]) ⟨rfl, rfl⟩
    exact h.elim
  · rename_i fs p
    split at d
    · rename_i C
      simp only[Bv, AO, Ac] at d;obtain ⟨A, n, B, o, rfl⟩ := d;have e := Cc j n;have f := Cc j o;simp only[ev] at h;split at h
      · rename_i H J l m
        rw[l] at e; rw[m] at f;obtain ⟨O, Q, rfl, rfl, D, l2, z⟩ := h;obtain ⟨T, q, F⟩ := e;obtain ⟨R, s, G⟩ := f;rw[VM F] at q;rw[VM G] at s;rw[q, s];exact Ed z (tj p C D l2).1 ⟨rfl, rfl⟩
      exact h.elim
    cases d
  · rename_i fs p
    split at d
    · rename_i C
      simp only[Bv, AO, Ac] at d;obtain ⟨A, n, B, o, rfl⟩ := d;have e := Cc j n;have f := Cc j o;simp only[ev] at h;split at h
      · rename_i H J l m
        rw[l] at e; rw[m] at f;obtain ⟨O, Q, rfl, rfl, D, l2, z⟩ := h;obtain ⟨T, q, F⟩ := e;obtain ⟨R, s, G⟩ := f;rw[VM F] at q;rw[VM G] at s;rw[q, s];exact Ed z (tj p C D l2).2 ⟨rfl, rfl⟩
      exact h.elim
    cases d
  simp only[Bv, AO, Ac] at d;obtain ⟨A, n, B, o, rfl⟩ := d;have e := Cc j n;have f := Cc j o;simp only[ev] at h;split at h
  · rename_i u v l m
    rw[l] at e; rw[m] at f;obtain ⟨c, _⟩ := BQ e;obtain ⟨b, _⟩ := BQ f;obtain ⟨r, k, z⟩ := h;rw[c, b];refine Ed z (Zju k w) ⟨rfl, ?_⟩;unfold LR at k;split at k <;> first
      |(simp at k; done)
      |(simp only[Ac] at k; subst k; rfl)
      | (split at k
         · simp only[Ac] at k; subst k; rfl
         · simp at k)
  exact h.elim
def ym(k:Rel N w0 own0 pl0 g pl S a w){f:UnOp}{t:TypeId}{x:Operand}{n:TypeId}{i:I}(e:Dy P n (.unOp f t x)=some i)(h:ev S K i):
  Hx P pl S.next K (Op.unary f (a.eval x)) w:=by
 simp only[Dy,BP]at e;obtain⟨o,m,rfl⟩:=e;have c:=Cc k m;simp only[ev]at h;split at h
 .rename_i u l;rw[l]at c;obtain⟨j,_⟩:=BQ c;obtain⟨r,b,d⟩:=h;rw[j];unfold iz at b;split at b
  .simp only[Ac]at b;subst b;exact Ed d (by simp[Op.unary]) ⟨rfl,rfl⟩
  .simp only[Ac]at b;subst b;exact Ed d (v:=.int _ _) (by simp only[Op.unary,Op.intArith];rfl) ⟨rfl,rfl⟩
  simp at b
 exact h.elim
def od(b:Rel N w0 own0 pl0 g pl S a w){x:Operand}{y:Opd}{d:TypeId}(c:BL P d x=some y)(h:ev S K (.mv y)):
  Hx P pl S.next K (pure (a.eval x)) w:=⟨_,_,rfl,Cc b c,h⟩
def yk(b:Rel N w0 own0 pl0 g pl S a w){c x y:Operand}{n:TypeId}{i:I}(e:Dy P n (.pick c x y)=some i)(h:ev S K i):
  Hx P pl S.next K (do pure (if <- asBool (a.eval c) then a.eval x else a.eval y)) w:=by
 simp only[Dy,Bv,AO,Ac]at e;obtain⟨o,j,p,l,q,m,rfl⟩:=e;have d:=Cc b j;simp only[ev]at h;split at h
 .rename_i t k;rw[k]at d;obtain⟨f,_⟩:=BQ d;rw[f];cases t with
  |true=>exact⟨_,_,by simp[asBool],Cc b l,h.1 rfl⟩
  |false=>exact⟨_,_,by simp[asBool],Cc b m,h.2 rfl⟩
 exact h.elim
def yd(H:Rel N w0 own0 pl0 g pl S a w){t:TypeId}{x:Operand}{f:Nat}{U:TypeId}{i:I}(n:Dy P U (.field t x f)=some i)(h:ev S K i):
  Hx P pl S.next K (Instr.field t (a.eval x) f) w:=by
 simp only[Dy]at n;split at n
 .rename_i fs m;simp only[QG,Bv,AO,Ac]at n;obtain⟨q,l,V,⟨d,hd,j,L,rfl⟩,y,R,rfl⟩:=n;have o:=Cc H R;by_cases e:MP d=true
  .simp only[e,BF,ev]at h;split at h
   .rename_i F s;rw[s]at o;obtain⟨E,C,b⟩:=o;obtain⟨O,r⟩:=h;have c:(isAgg q.type).run P w=.ok true w:=by
     simp only[isAgg,Sem.run_bind,run_underlying hd,Result.andThen];cases d<;>simp_all[MP]
    have M:=b.length;refine Ss (vs:=(E.drop q.offset).take j.size) r ?_ ?_
    .rw[C];simp[Instr.field,run_underlying m,l,asAgg,part,c,sizeOf,typeInfo,L]
    refine Ai.of_get (by simp[M]) λk x u Q A=>?_;have D:=LH rfl k x Q;have B:=LH rfl k u A;obtain⟨W,p,G⟩:=b.get _ _ D;rw[B]at p;simp only[Ac]at p;subst p;exact G
   exact h.elim
  simp only[e,C6,BC,ev]at h;split at h
  .rename_i F s;rw[s]at o;obtain⟨E,C,b⟩:=o;obtain⟨z,T,r⟩:=h;have c:(isAgg q.type).run P w=.ok false w:=by
    simp only[isAgg,Sem.run_bind,run_underlying hd,Result.andThen];cases d<;>simp_all[MP]
   obtain⟨u,A,J⟩:=b.get _ _ T;refine Ed r (v:=u) ?_ J;rw[C];simp[Instr.field,run_underlying m,l,asAgg,part,c,A]
  exact h.elim
 simp at n
def yc(z:Rel N w0 own0 pl0 g pl S a w){t:TypeId}{x:Operand}{f:Nat}{E:TypeId}{i:I}(e:Dy P E (.fieldAddr t x f)=some i)(h:ev S K i):
  Hx P pl S.next K (Instr.fieldAt t (a.eval x) f) w:=by
 simp only[Dy]at e;split at e
 .rename_i fs s;simp only[Bv,AO]at e;obtain⟨v,q,j,B,e⟩:=e;split at e
  .simp at e
  rename_i D;simp only[AO,Ac]at e;obtain⟨y,C,rfl⟩:=e;have k:=Cc z C;have d:∀A:Addr,(Instr.fieldAt t (.pointer (some A)) f).run P w=.ok (.pointer (some (A.add v.offset))) w:=by
   intro A;simp[Instr.fieldAt,run_underlying s,q,Instr.sureAddr,fieldPlace,sizeOf,typeInfo,B,D]
  simp only[ev]at h;split at h
  .rename_i r p i c l;rw[l]at k;obtain⟨u,m,n⟩:=BQ k;exact Ed h (by rw[n];exact d _) ⟨u,m,by rw[Addr.add_lit];simp[FQ]⟩
  .rename_i r c l;rw[l]at k;obtain⟨u,n⟩:=BQ k;exact Ed h (by rw[n];exact d _) ⟨u,by rw[Addr.add_lit];simp[FQ]⟩
  .rename_i b o l;rw[l]at k;obtain⟨n,_⟩:=BQ k;exact Ed h (by rw[n];exact d _) ⟨by rw[Addr.add_lit],rfl⟩
  exact h.elim
 simp at e
def yi(e:Rel N w0 own0 pl0 g pl S a w){x:Operand}{y:Opd}{j:TypeId}(f:BL P j x=some y)(h:ev S K (.nilc y)):
  ∃A,a.eval x=.pointer (some A)/\∃z,VR pl S.next z (a.eval x)/\K z:=by
 have b:=Cc e f;simp only[ev]at h;split at h
 .rename_i r p i c d;rw[d]at b;exact⟨_,(BQ b).2.2,_,b,h⟩
 .rename_i r c d;rw[d]at b;exact⟨_,(BQ b).2,_,b,h⟩
 exact h.elim
end Go.Vs
namespace Go.Vs
variable [Glb]
variable {P:Program} {N:Nat} {w0:World} {own0:Nat->Nat->Prop} {pl0:Aw} {g:Bp} {pl:Aw} {S:St} {a:Act} {w:World} {K:V->Prop}
def ye(H:Rel N w0 own0 pl0 g pl S a w){t:TypeId}{x y:Operand}{Z:TypeId}{i:I}(m:Dy P Z (.indexAddr t x y)=some i)(h:ev S K i):
  Hx P pl S.next K (Instr.indexAt t (a.eval x) (a.eval y)) w:=by
 simp only[Dy]at m;split at m
 .rename_i e L;simp only[Bv,AO,Ac]at m;obtain⟨j,J,x',R,y',T,rfl⟩:=m;have d:=Cc H R;have f:=Cc H T;simp only[ev]at h;split at h
  .rename_i r p Y U n k z u B;rw[u]at d;rw[B]at f;obtain⟨O,Q,D,W,A,F,V⟩:=BQ d;obtain⟨G,_⟩:=BQ f;obtain⟨rfl,⟨q,C⟩,s⟩:=h;have M:U<(pl r p).cap:=by omega
   have E:(pl r p).nil=false:=by
    cases X:(pl r p).nil with
    |false=>rfl
    |true=>have:=D X;omega
   have l:=V (.inl M);rw[E]at l;simp only[C6,BC]at l;refine Ed s (v:=.pointer (some ⟨(pl r p).b,(pl r p).off+((U+z.toNat)*(pl r p).sz+0),none⟩)) ?_ ⟨O,E,rfl⟩;rw[F,G,l];simp only[Instr.indexAt,asIntOf,Sem.run_bind,Sem.run_pure,Result.andThen_ok,run_underlying L];simp[q,C,sizeOf,typeInfo,J,Addr.add_lit,Q,Fn,FQ]
  exact h.elim
 .rename_i n e L;simp only[Bv,AO,Ac]at m;obtain⟨j,J,x',R,y',T,rfl⟩:=m;have d:=Cc H R;have f:=Cc H T;simp only[ev]at h;split at h
  .rename_i r c k z u B;rw[u]at d;rw[B]at f;obtain⟨O,F⟩:=BQ d;obtain⟨G,_⟩:=BQ f;obtain⟨⟨q,C⟩,s⟩:=h;refine Ed s (v:=.pointer (some ⟨(pl r []).b,(pl r []).off+(c+z.toNat*j.size),none⟩)) ?_ ⟨O,rfl⟩;rw[F,G];simp only[Instr.indexAt,asIntOf,Sem.run_bind,Sem.run_pure,Result.andThen_ok,run_underlying L];simp[q,C,sizeOf,typeInfo,J,Addr.add_lit,FQ,Instr.sureAddr]
  .rename_i b o k z u B;rw[u]at d;rw[B]at f;obtain⟨F,_⟩:=BQ d;obtain⟨G,_⟩:=BQ f;obtain⟨⟨q,C⟩,s⟩:=h;refine Ed s (v:=.pointer (some ⟨b,o+z.toNat*j.size,none⟩)) ?_ ⟨rfl,rfl⟩;rw[F,G];simp only[Instr.indexAt,asIntOf,Sem.run_bind,Sem.run_pure,Result.andThen_ok,run_underlying L];simp[q,C,sizeOf,typeInfo,J,Addr.add_lit,FQ,Instr.sureAddr]
  exact h.elim
 simp at m
def yf(r:Rel N w0 own0 pl0 g pl S a w){t:TypeId}{x y:Operand}{U:TypeId}{i:I}(f:Dy P U (.index t x y)=some i)(h:ev S K i):
  Hx P pl S.next K (Instr.index t (a.eval x) (a.eval y)) w:=by
 simp only[Dy]at f;split at f
 .rename_i E;simp only[Bv,AO,Ac]at f;obtain⟨V,J,W,L,rfl⟩:=f;have l:=Cc r J;have m:=Cc r L;simp only[ev]at h;split at h
  .rename_i s k z C D;rw[C]at l;rw[D]at m;obtain⟨G,_⟩:=BQ l;obtain⟨M,_⟩:=BQ m;obtain⟨A,b,Q,B⟩:=h;refine Ed B (v:=.int .u8 b.toNat) ?_ ⟨rfl,rfl⟩;rw[G,M];simp only[Instr.index,asIntOf,Sem.run_bind,Sem.run_pure,Result.andThen_ok,run_underlying E];rw[Af A,Q];rfl
  exact h.elim
 .rename_i n e E;simp only[QG,Bv,AO,Ac]at f;obtain⟨j,O,Z,⟨d,hd,Y,c,rfl⟩,V,J,W,L,rfl⟩:=f;rw[O]at c;simp only[Ac]at c;subst c;have l:=Cc r J;have m:=Cc r L;cases o:MP d with
  |true=>simp only[o,BF,ev]at h
  |false=>
   simp only[o,C6,BC,ev]at h;split at h
   .rename_i X k z C D;rw[C]at l;rw[D]at m;obtain⟨vs,G,p⟩:=l;obtain⟨M,_⟩:=BQ m;obtain⟨⟨A,T⟩,u,F,B⟩:=h;obtain⟨v,H,R⟩:=p.get _ _ F;have q:(isAgg e).run P w=.ok false w:=by
     simp only[isAgg,Sem.run_bind,run_underlying hd,Result.andThen];cases d<;>simp_all[MP]
    refine Ed B (v:=v) ?_ R;rw[G,M];simp only[Instr.index,asIntOf,Sem.run_bind,Sem.run_pure,Result.andThen_ok,run_underlying E];rw[Af ⟨A,T⟩];simp[part,q,sizeOf,typeInfo,O,H]
   exact h.elim
 simp at f
def yb(j:Rel N w0 own0 pl0 g pl S a w){x:Operand}{n:Nat}{q:TypeId}{i:I}(e:Dy P q (.extract x n)=some i)(h:ev S K i):
  Hx P pl S.next K (Instr.extract (a.eval x) n) w:=by
 simp only[Dy,BP]at e;obtain⟨s,o,rfl⟩:=e;have d:=Cc j o;simp only[ev]at h;split at h
 .rename_i t l;rw[l]at d;obtain⟨r,m,b⟩:=d;obtain⟨y,p,f⟩:=h;obtain⟨v,c,k⟩:=b.get _ _ p;refine⟨v,.a y, ?_,k,f⟩;rw[m];simp[Instr.extract,c]
 exact h.elim
def yg(hR:Rel N w0 own0 pl0 g pl S a w){args:Array Operand}{tys:Array TypeId}{ty' ty:TypeId}{i:I}(ht:Dy P ty (.call { callee:=.builtin .len,args,argTypes:=tys })=some i)(h:ev S K i):
  Hx P pl S.next K (Builtin.len_ tys ty' (args.map a.eval)) w:=by
 simp only[Dy]at ht;split at ht
 .rename_i x t hxs hts;have hargs:args=#[x]:=by apply Array.ext';simpa using hxs
  have htys:tys=#[t]:=by apply Array.ext';simpa using hts
  subst hargs;subst htys;split at ht
  .rename_i e hu;simp only[BP]at ht;obtain⟨x',hx,rfl⟩:=ht;have h1:=Cc hR hx;simp only[ev]at h;split at h
   .rename_i r p sz lo n he;rw[he]at h1;obtain⟨hr,hsz,hnil,hle,A,hv,hA⟩:=BQ h1;refine Ed h (v:=.int .i64 n) ?_ ⟨rfl,rfl⟩;simp[Builtin.len_,run_underlying hu,hv,goInt]
   .rename_i he;rw[he]at h1;have hv:a.eval x=.slice none 0 0:=BQ h1;refine Ed h (v:=.int .i64 0) ?_ ⟨rfl,rfl⟩;simp[Builtin.len_,run_underlying hu,hv,goInt]
   exact h.elim
  .rename_i hu;simp only[BP]at ht;obtain⟨x',hx,rfl⟩:=ht;have h1:=Cc hR hx;simp only[ev]at h;split at h
   .rename_i s he;rw[he]at h1;have hv:=(BQ h1).1;refine Ed h (v:=.int .i64 s.size) ?_ ⟨rfl,rfl⟩;simp[Builtin.len_,run_underlying hu,hv,goInt]
   exact h.elim
  simp at ht
 simp at ht
def Pe{k:IntKind}{z:Int}{y:Nat}{b:BoundsCode}(c:0<=z)(d:z<=y)(w:World):(Instr.sliceBound (.int k z) y b).run P w=.ok z.toNat w:=by
 simp[Instr.sliceBound,asIntOf,c,d]
def lw{L:Pl}{j d n l h:Nat}{A:Option Addr}(f:L.sz=j)(c:L.nil=true->L.cap=0)(m:d+n<=L.cap)
  (k:d<L.cap\/d=0->A=if L.nil then L.raw else some ⟨L.b,L.off+d*L.sz,none⟩) (r:l<=h) (q:h<=n):
  Gc L j (d+l) (h-l) (sliced A l h (L.cap-d) j):=by
 refine⟨f,c,by omega,_,by unfold sliced;rw[Nat.sub_sub], ?_⟩;intro p;by_cases e:L.cap-d=l
 .rw[Af e];have i:l=0:=by omega
  subst i;exact k (by omega)
 rw[Ae e,k (by omega)];cases o:L.nil with
 |true=>have:=c o;omega
 |false=>simp[Addr.add_lit,f,Fn,FQ]
def yl(Y:Rel N w0 own0 pl0 g pl S a w){t:TypeId}{x:Operand}{H u mx:Option Operand}{ty:TypeId}{i:I}(Z:Dy P ty (.slice t x H u mx)=some i)(h:ev S K i):
  Hx P pl S.next K (Instr.sliceAt t (a.eval x) (H.map a.eval) (u.map a.eval) (mx.map a.eval)) w:=by
 cases mx with
 |some m=>simp[Dy]at Z
 |none=>
 simp only[Dy]at Z;split at Z
 .rename_i e hu;simp only[Bv,AO,Ac]at Z;obtain⟨j,hj,x',hx,a2,o,a1,b,rfl⟩:=Z;have D:=Cc Y hx;have c:∀(A:Option Addr) (n a0:Nat) (l q m:Nat) (H u:Option Value),(Instr.sliceBounds true n a0 H u none).run P w=.ok (l,q,m) w ->
    (Instr.sliceAt t (.slice A n a0) H u none).run P w=.ok (sliced A l q m j.size) w:=by
   intro A n a0 l q m H u hb;simp only[Instr.sliceAt,Sem.run_bind,run_underlying hu,Result.andThen_ok,Instr.slice,hb];simp[sizeOf,typeInfo,hj,sliced]
  simp only[H2];cases H with
  |none=>
   simp only[I4,Ac]at o;subst o;cases u with
   |none=>
    simp only[I4,Ac]at b;subst b;simp only[ev,H2]at h ⊢;split at h
    .simp_all
    .simp_all
    .simp_all
    .rename_i r p sz G n J _ _;rw[J]at D;obtain⟨hr,F,d,E,A,L,hA⟩:=BQ D;refine Ed h (v:=.slice A n ((pl r p).cap-G)) ?_ ⟨hr,F,d,E,A,rfl,hA⟩;rw[L,c A n _ 0 n ((pl r p).cap-G) none none (by simp[Instr.sliceBounds])];have:sliced A 0 n ((pl r p).cap-G) j.size=.slice A n ((pl r p).cap-G):=by
      unfold sliced;simp only[Nat.zero_mul,M8];cases A<;>simp[Addr.add]
     rw[this]
    exact h.elim
   |some u=>
    simp only[I4,BP]at b;obtain⟨y,hy,rfl⟩:=b;have O:=Cc Y hy;simp only[ev,H2,Dg]at h ⊢;split at h
    .simp_all
    .simp_all
    .rename_i r p sz G n k z J _ C;rw[J]at D;simp only[Ac]at C;rw[C]at O;obtain⟨hr,F,d,E,A,L,hA⟩:=BQ D;obtain⟨f,_⟩:=BQ O;obtain⟨B,⟨M,X⟩,Q⟩:=h;refine Ed Q (v:=sliced A 0 z.toNat ((pl r p).cap-G) sz) ?_ ⟨hr,by have:=lw (l:=0) (h:=z.toNat) F d E hA (by omega) (by omega);simpa using this⟩;rw[L,f,c A n _ 0 z.toNat ((pl r p).cap-G) none _ (by simp[Instr.sliceBounds,Pe M (show z<=(((pl r p).cap-G:Nat):Int) by omega)]),B]
    .simp_all
    exact h.elim
  |some H=>
   simp only[I4,BP]at o;obtain⟨a3,R,rfl⟩:=o;have W:=Cc Y R;cases u with
   |none=>
    simp only[I4,Ac]at b;subst b;simp only[ev,H2,Dg]at h ⊢;split at h
    .simp_all
    .rename_i r p sz G n k z J C _;rw[J]at D;simp only[Ac]at C;rw[C]at W;obtain⟨hr,F,d,E,A,L,hA⟩:=BQ D;obtain⟨f,_⟩:=BQ W;obtain⟨B,⟨M,X⟩,Q⟩:=h;refine Ed Q (v:=sliced A z.toNat n ((pl r p).cap-G) sz) ?_ ⟨hr,lw F d E hA (by omega) (by omega)⟩;rw[L,f,c A n _ z.toNat n ((pl r p).cap-G) _ none (by simp[Instr.sliceBounds,Pe M X]),B]
    .simp_all
    .simp_all
    exact h.elim
   |some u=>
    simp only[I4,BP]at b;obtain⟨y,hy,rfl⟩:=b;have O:=Cc Y hy;simp only[ev,Dg]at h ⊢;split at h
    .rename_i r p sz G n k z k' V J C T;rw[J]at D;simp only[Ac]at C T;rw[C]at W;rw[T]at O;obtain⟨hr,F,d,E,A,L,hA⟩:=BQ D;obtain⟨f,_⟩:=BQ W;obtain⟨U,_⟩:=BQ O;obtain⟨B,⟨M,X,g2⟩,Q⟩:=h;refine Ed Q (v:=sliced A z.toNat V.toNat ((pl r p).cap-G) sz) ?_ ⟨hr,lw F d E hA (by omega) (by omega)⟩;rw[L,f,U,c A n _ z.toNat V.toNat ((pl r p).cap-G) _ _ (by simp[Instr.sliceBounds,Pe (show 0<=V by omega) (show V<=(((pl r p).cap-G:Nat):Int) by omega),Pe M (show z<=((V.toNat:Nat):Int) by omega)]),B]
    .simp_all
    .simp_all
    .simp_all
    exact h.elim
 .rename_i hu;simp only[Bv,AO,Ac]at Z;obtain⟨x',hx,a2,o,a1,b,rfl⟩:=Z;have D:=Cc Y hx;have c:∀(s:ByteArray) (l q m:Nat) (H u:Option Value),(Instr.sliceBounds false s.size s.size H u none).run P w=.ok (l,q,m) w ->
    (Instr.sliceAt t (.string s) H u none).run P w=.ok (.string (s.extract l q)) w:=by
   intro s l q m H u hb;simp only[Instr.sliceAt,Sem.run_bind,run_underlying hu,Result.andThen_ok,Instr.slice];simp[hb]
  simp only[H2];cases H with
  |none=>
   simp only[I4,Ac]at o;subst o;cases u with
   |none=>
    simp only[I4,Ac]at b;subst b;simp only[ev,H2]at h ⊢;split at h
    .simp_all
    .simp_all
    .simp_all
    exact h.elim
   |some u=>
    simp only[I4,BP]at b;obtain⟨y,hy,rfl⟩:=b;have O:=Cc Y hy;simp only[ev,H2,Dg]at h ⊢;split at h
    .simp_all
    .simp_all
    .rename_i s k z J _ C;rw[J]at D;simp only[Ac]at C;rw[C]at O;obtain⟨L,_⟩:=BQ D;obtain⟨f,_⟩:=BQ O;obtain⟨⟨M,X⟩,Q⟩:=h;refine Ed Q (v:=.string (s.extract 0 z.toNat)) ?_ ⟨rfl,rfl⟩;rw[L,f,c s 0 z.toNat s.size none _ (by simp[Instr.sliceBounds,Pe M X])]
    exact h.elim
  |some H=>
   simp only[I4,BP]at o;obtain⟨a3,R,rfl⟩:=o;have W:=Cc Y R;cases u with
   |none=>
    simp only[I4,Ac]at b;subst b;simp only[ev,H2,Dg]at h ⊢;split at h
    .simp_all
    .rename_i s k z J C _;rw[J]at D;simp only[Ac]at C;rw[C]at W;obtain⟨L,_⟩:=BQ D;obtain⟨f,_⟩:=BQ W;obtain⟨⟨M,X⟩,Q⟩:=h;refine Ed Q (v:=.string (s.extract z.toNat s.size)) ?_ ⟨rfl,rfl⟩;rw[L,f,c s z.toNat s.size s.size _ none (by simp[Instr.sliceBounds,Pe M X])]
    .simp_all
    exact h.elim
   |some u=>
    simp only[I4,BP]at b;obtain⟨y,hy,rfl⟩:=b;have O:=Cc Y hy;simp only[ev,Dg]at h ⊢;split at h
    .rename_i s k z k' V J C T;rw[J]at D;simp only[Ac]at C T;rw[C]at W;rw[T]at O;obtain⟨L,_⟩:=BQ D;obtain⟨f,_⟩:=BQ W;obtain⟨U,_⟩:=BQ O;obtain⟨⟨M,X,g2⟩,Q⟩:=h;refine Ed Q (v:=.string (s.extract z.toNat V.toNat)) ?_ ⟨rfl,rfl⟩;rw[L,f,U,c s z.toNat V.toNat s.size _ _ (by simp[Instr.sliceBounds,Pe (show 0<=V by omega) g2,Pe M (show z<=((V.toNat:Nat):Int) by omega)])]
    .simp_all
    .simp_all
    exact h.elim
 simp at Z
def qR:∀(l:List UInt8) (b:ByteArray),l.foldl (λr n=>r.push n) b=⟨(b.data.toList++l).toArray⟩
 |[],b=>by simp
 |x::l,b=>by rw[Oe,qR l];simp[ByteArray.push]
def nj{w:World}:∀{o:List (List D)}{l:List UInt8}{b off:Nat},Qa o=some l ->
  (∀i e c d,o[i]?= some e->e[c]?= some d->∃v,w.cell? ⟨b,off+(i+c),none⟩=some v/\(∀x,d=.lf x->v=x)) ->
  ∃m:List Int,l=m.map (λn=>UInt8.ofNat n.toNat)/\m.length=o.length/\∀j v,(m.map (Value.int .u8))[j]?= some v->w.cell? ⟨b,off+j,none⟩=some v
 |[],l,b,off,h,_=>by simp only[Qa,Ac]at h;subst h;exact⟨[],rfl,rfl,by simp⟩
 |e::o,l,b,off,h,r=>by
  unfold Qa at h;split at h
  .rename_i f;cases f
  .rename_i z t f;cases f;simp only[BP]at h;obtain⟨E,q,rfl⟩:=h;obtain⟨m,A,k,B⟩:=nj (b:=b) (off:=off+1) q (λi e c d y hd=>by
    have:=r (i+1) e c d (by simpa using y) hd
    rwa[show off+1+(i+c)=off+(i+1+c) by omega])
   refine⟨z::m,by simp[A],by simp[k], ?_⟩;intro j v p;cases j with
   |zero=>
    simp at p;subst p;obtain⟨u,s,C⟩:=r 0 _ 0 (.lf (.int .u8 z)) rfl rfl;rw[C _ rfl]at s;exact s
   |succ j=>
    have:=B j v (by simpa using p)
    rwa[show off+1+j=off+(j+1) by omega]at this
  simp at h
def ya(hR:Rel N w0 own0 pl0 g pl S a w){s d:TypeId}{x:Operand}{ty:TypeId}{i:I}(f:Dy P ty (.convert s d x)=some i)(h:ev S K i):
  Hx P pl S.next K (convert s d (a.eval x)) w:=by
 simp only[Dy,Bv,AO]at f;obtain⟨x',hx,f⟩:=f;have t:=Cc hR hx;split at f
 .rename_i k' k J hd;simp only[Ac]at f;subst f;simp only[ev]at h;split at h
  .rename_i kk z D;rw[D]at t;obtain⟨q,_⟩:=BQ t;refine Ed h (v:=.int k (k.wrap z)) ?_ ⟨rfl,rfl⟩;rw[q];simp[convert,run_underlying J,run_underlying hd,Conv.intToInt]
  exact h.elim
 .rename_i e J hd;split at f
  .rename_i T;simp only[Ac]at f;subst f;simp only[ev]at h;have H:∀v,(convert s d v).run P w=(match v with|.slice A n c=>(Conv.bytesToString (.slice A n c)).run P w|_=>(convert s d v).run P w):=by
    intro v;split
    .simp[convert,run_underlying J,run_underlying hd,run_underlying T]
    rfl
   split at h
   .rename_i r p Z n D;rw[D]at t;obtain⟨hr,L,u,a1,A,q,hA⟩:=BQ t;obtain⟨l,F,hK⟩:=h;simp only[OW,AO]at F;obtain⟨m,hm,F⟩:=F;split at F
    .rename_i a0;obtain⟨a2,hc⟩:=hR.hp.node hm;have V:m.1=1:=by rw[<-hc.szp,L]
     obtain⟨y,G,X,C⟩:=nj (w:=w) (b:=(pl r p).b) (off:=(pl r p).off+Z) F (λi e c dd hi Q=>by
      have U:=LH rfl i e hi;obtain⟨v,q,R⟩:=hc.cells (Z+i) e c dd U Q;rw[V]at q;refine⟨v,by rw[Og]at q;rwa[FQ,<-FQ Z], ?_⟩;rintro x rfl;exact R.1)
     have o:y.length=n:=by rw[X];simp;omega
     refine Ed hK (v:=.string ⟨l.toArray⟩) ?_ ⟨rfl,rfl⟩;rw[q,H];simp only;cases A with
     |none=>
      have W:n=0:=by
       by_cases O:n=0
       .exact O
       exfalso;have:=hA (.inl (by omega));cases M:(pl r p).nil with
       |true=>have:=u M;omega
       |false=>rw[M]at this;simp at this
      subst W;have:y=[]:=M9.1 o;subst this;rw[G];simp[Conv.bytesToString,ByteArray.empty,ByteArray.emptyWithCapacity];rfl
     |some A=>
      have E:(loadCells A n).run P w=.ok (y.map (Value.int .u8)).toArray w:=by
       by_cases O:n=0
       .subst O;have:y=[]:=M9.1 o;subst this;simp[loadCells,loadCellsFrom]
       have B:=hA (.inl (by omega));have Y:(pl r p).nil=false:=by
        cases M:(pl r p).nil with
        |false=>rfl
        |true=>have:=u M;omega
       rw[Y]at B;simp only[C6,BC,Ac]at B;have:=run_loadCells_list (P:=P) w A (y.map (Value.int .u8)) (λj v hj=>by
        rw[B,Addr.add_lit,L,Og];exact C j v hj)
       rwa[B3,o]at this
      rw[run_bytesToString w A n _ y E,G];rw[show (y.foldl (λr n=>r.push (UInt8.ofNat n.toNat)) ByteArray.empty)=((y.map λn=>UInt8.ofNat n.toNat).foldl (λr n=>r.push n) ByteArray.empty) by rw[List.foldl_map],qR];simp[ByteArray.empty,ByteArray.emptyWithCapacity];rfl
    simp at F
   .rename_i D;rw[D]at t;have q:a.eval x=.slice none 0 0:=BQ t;refine Ed h (v:=.string .empty) ?_ ⟨rfl,rfl⟩;rw[q,H];simp[Conv.bytesToString]
   exact h.elim
  simp at f
 .rename_i J hd;simp only[Ac]at f;subst f;simp only[ev]at h;split at h
  .rename_i s' D;rw[D]at t;obtain⟨q,_⟩:=BQ t;refine Ed h (v:=.string s') ?_ ⟨rfl,rfl⟩;rw[q];simp[convert,run_underlying J,run_underlying hd]
  exact h.elim
 simp at f
def Zz{d:Nat}{x:V}{v:Value}{e:List C}(h:VR pl d x v)(b:Ov x=some e):Ai (CR pl d) e v.cells.toList:=by
 unfold Ov at b;split at b
 .simp only[Ac]at b;subst b;rw[yD (CR.one (BQ h))];exact⟨BQ h,trivial⟩
 .simp only[Ac]at b;subst b;obtain⟨f,rfl,c⟩:=h;simpa[Value.cells] using c
 simp at b
def uq(b:Nat):∀(e:List Value) (k:Nat) (d:Array Value),b+k+e.length<=d.size ->
  ((e.zipIdx k).foldl (λd (c,j)=>d.setIfInBounds (b+j) c) d).toList=d.toList.take (b+k)++(e++d.toList.drop (b+k+e.length))
 |[],k,d,h=>by simp
 |v::e,k,d,h=>by
  simp only[Aq]at h;rw[List.zipIdx_cons,Oe];rw[uq b e (k+1) _ (by simp;omega)];simp only[mO,Aq];apply MA;intro j;simp only[mP,EF,U3,Hh,EM,Fo,F2,mQ,Aq];by_cases s:j<b+k
  .simp[s,show j<min (b+(k+1)) d.size by omega,show j<min (b+k) d.size by omega,show j<b+(k+1) by omega,show ¬b+k=j by omega]
  by_cases t:j=b+k
  .subst t;simp[show b+k<min (b+(k+1)) d.size by omega,show b+k<d.size by omega,show ¬(b+k<min (b+k) d.size) by omega,show b+k-min (b+k) d.size=0 by omega,show b+k<b+(k+1) by omega]
  have l:¬j<min (b+(k+1)) d.size:=by omega
  have m:¬j<min (b+k) d.size:=by omega
  have n:min (b+(k+1)) d.size=b+k+1:=by omega
  have o:min (b+k) d.size=b+k:=by omega
  simp only[l,m,BC];rw[n,o];have p:j-(b+k)-1=j-(b+k+1):=by omega
  by_cases i:j-(b+k+1)<e.length
  .have f:j-(b+k)<e.length+1:=by omega
   simp[i,f,show ¬(j-(b+k)=0) by omega,p]
  have f:¬j-(b+k)<e.length+1:=by omega
  simp only[i,f,BC];have q:b+(k+1)+e.length+(j-(b+k+1)-e.length)=j:=by omega
  have r:b+k+(e.length+1)+(j-(b+k)-(e.length+1))=j:=by omega
  rw[q,r,Ae (by omega)]
def Ai.append{α β:Type}{R:α->β->Prop}:∀{b:List α}{c:List β}{d:List α}{e:List β},Ai R b c->Ai R d e->Ai R (b++d) (c++e)
 |[],[],_,_,_,h=>h
 |_::_,_::_,_,_,h,k=>⟨h.1,Ai.append h.2 k⟩
 |[],_::_,_,_,h,_=>h.elim
 |_::_,[],_,_,h,_=>h.elim
def Ai.take{α β:Type}{R:α->β->Prop}:∀(n:Nat){b:List α}{c:List β},Ai R b c->Ai R (b.take n) (c.take n)
 |0,_,_,_=>by simp[Ai]
 |n+1,[],[],_=>trivial
 |n+1,_::_,_::_,h=>⟨h.1,Ai.take n h.2⟩
 |n+1,[],_::_,h=>h.elim
 |n+1,_::_,[],h=>h.elim
def Ai.drop{α β:Type}{R:α->β->Prop}:∀(n:Nat){b:List α}{c:List β},Ai R b c->Ai R (b.drop n) (c.drop n)
 |0,_,_,h=>h
 |n+1,[],[],_=>trivial
 |n+1,_::_,_::_,h=>Ai.drop n h.2
 |n+1,[],_::_,h=>h.elim
 |n+1,_::_,[],h=>h.elim
def aG(E:Rel N w0 own0 pl0 g pl S a w)(f:Nat->Option (Nat×Nat)):∀(b:List (Nat×Operand)) (k:List (Nat×Nat×Opd)) (s:List C) (r:Array Value) (l:List C),
  Ai (λ(p:Nat×Operand) (o:Nat×Nat×Opd)=>f p.1=some (o.1,o.2.1)/\∃G,BL P G p.2=some o.2.2) b k ->
  Ai (CR pl S.next) s r.toList->Ie S s k=some l ->
  ∃m,Instr.fill f r (b.map λp=>(p.1,a.eval p.2))=some m/\Ai (CR pl S.next) l m.toList
 |[],[],s,r,l,_,d,n=>by simp only[Ie,Ac]at n;subst n;exact⟨r,rfl,d⟩
 |(i,x)::b,(q,J,y)::k,s,r,l,B,d,n=>by
  obtain⟨⟨t,G,u⟩,B⟩:=B;simp only at t u;unfold Ie at n;split at n
  .rename_i L D;split at n
   .rename_i A;have F:=Zz (Cc E u) D;have v:=F.length;have z:=d.length;simp only[Hh]at v z;have e:=uq q (a.eval x).cells.toList 0 r (by simp;omega);obtain⟨m,H,I⟩:=aG E f b k _ ((a.eval x).cells.zipIdx.foldl (λs (c,j)=>s.setIfInBounds (q+j) c) r) l B (by
     rw[<-Array.foldl_toList,Array.toList_zipIdx,e];simp only[AL,Hh];rw[<-v,A.1];exact (d.take q).append (F.append (d.drop _))) n
    refine⟨m, ?_,I⟩;simp only[A2,Instr.fill,t];rw[Ae (by rw[<-v];simp;omega)];exact H
   simp at n
  simp at n
 |[],_::_,_,_,_,h,_,_=>h.elim
 |_::_,[],_,_,_,h,_,_=>h.elim
def Ow{nx:Nat}{t:TypeId}{v:Value}{c:List C}(h:L9 P t v=some c):Ai (CR pl nx) c v.cells.toList:=by
 unfold L9 at h;split at h
 .rename_i b;simp only[Ac]at h;subst h;exact Z6 P pl nx _ _ λu d=>by simpa using (U2.1 b) u (by simpa using d)
 simp at h
def w_{fs:Array Field}{d:List (Nat×Nat)}(t:fs.toList.mapM (λf=>(P.info? f.type).map λi=>(f.offset,i.size))=some d):
  ∀(c:List (Nat×Operand)) (e:List (Nat×Nat×Opd)),Xb P fs c=some e ->
  Ai (λ(p:Nat×Operand) (o:Nat×Nat×Opd)=>d.toArray[p.1]?= some (o.1,o.2.1)/\∃F,BL P F p.2=some o.2.2) c e
 |[],e,h=>by simp only[Xb,Ac]at h;subst h;trivial
 |(i,x)::c,e,h=>by
  simp only[Xb,Bv,AO,Ac]at h;obtain⟨f,A,j,r,y,D,m,C,rfl⟩:=h;refine⟨⟨?_,_,D⟩,w_ t c m C⟩;simp only[mS];have B:∀(l:List Field) (q:List (Nat×Nat)),l.mapM (λf=>(P.info? f.type).map λi=>(f.offset,i.size))=some q->∀(k:Nat) (f:Field) (j:TypeInfo),l[k]?= some f->P.info? f.type=some j->q[k]?= some (f.offset,j.size):=by
   intro l
   induction l with
   |nil=>intro q _ k f j s;simp at s
   |cons b l E=>
    intro q v k f j s r;simp only[dX,Bv,AO,Option.pure_def,Ac,BP]at v;obtain⟨z,⟨G,u,rfl⟩,m,n,rfl⟩:=v;cases k with
    |zero=>simp at s;subst s;rw[u]at r;simp at r;subst r;rfl
    |succ k=>simpa using E m n k f j (by simpa using s) r
  exact B fs.toList d t i f j (by simpa using A) r
def w9{e:TypeId}{f:Nat}:∀(b:List (Nat×Operand)) (c:List (Nat×Nat×Opd)),Xa P e f b=some c ->
  Ai (λ(p:Nat×Operand) (o:Nat×Nat×Opd)=>(λi=>some (i*f,f)) p.1=some (o.1,o.2.1)/\∃l,BL P l p.2=some o.2.2) b c
 |[],c,h=>by simp only[Xa,Ac]at h;subst h;trivial
 |(i,x)::b,c,h=>by
  simp only[Xa,Bv,AO,Ac]at h;obtain⟨y,k,d,j,rfl⟩:=h;exact⟨⟨rfl,_,k⟩,w9 b d j⟩
def y_(H:Rel N w0 own0 pl0 g pl S a w){t:TypeId}{c:Array (Nat×Operand)}{Q:TypeId}{i:I}(o:Dy P Q (.build t c)=some i)(h:ev S K i):
  Hx P pl S.next K (Instr.build t (c.map λ(i,x)=>(i,a.eval x))) w:=by
 simp only[Dy,Bv,AO]at o;obtain⟨R,v,z,L,o⟩:=o;split at o
 .rename_i fs G;split at o
  .rename_i u;simp only[AO,Ac]at o;obtain⟨zc,s,p,k,rfl⟩:=o;obtain⟨A,r,D⟩:=h;obtain⟨d,y⟩:∃d,fs.toList.mapM (λf=>(P.info? f.type).map λi=>(f.offset,i.size))=some d:=by
    have:∀l:List Field,(∀f∈l,(P.info? f.type).isSome)->∃q,l.mapM (λf=>(P.info? f.type).map λi=>(f.offset,i.size))=some q:=by
     intro l
     induction l with
     |nil=>intro _;exact⟨[],rfl⟩
     |cons b l O=>
      intro J;obtain⟨q,M⟩:=O λf E=>J f (by simp[E]);obtain⟨j,F⟩:=dY.1 (J b (by simp));exact⟨(b.offset,j.size)::q,by simp[dX,F,M]⟩
    exact this _ λf E=>(U2.1 u) f (by simpa using E)
   obtain⟨m,B,C⟩:=aG H (d.toArray[·]?) c.toList p zc z.cells A (w_ y _ _ k) (Ow s) r;refine Ss (vs:=m.toList) D ?_ C;rw[run_build w t _ m];unfold Program.built;simp only[v,G,L,y];simpa using B
  simp at o
 .rename_i n e G;simp only[Bv,AO,Ac]at o;obtain⟨j,F,zc,s,p,k,rfl⟩:=o;obtain⟨A,r,D⟩:=h;obtain⟨m,B,C⟩:=aG H (λi=>some (i*j.size,j.size)) c.toList p zc z.cells A (w9 _ _ k) (Ow s) r;refine Ss (vs:=m.toList) D ?_ C;rw[run_build w t _ m];unfold Program.built;simp only[v,G,L,F];simpa using B
 simp at o
def ny(i:Rel N w0 own0 pl0 g pl S a w):∀(l:List Operand) (d:List Opd) (c:List A),JT P [] l=some d->KM (d.map S.opd)=some c->Ai (AR pl S.next) c (l.map a.eval)
 |[],d,c,h,k=>by
  simp only[JT,Ac]at h;subst h;simp only[CB,KM,Ac]at k;subst k;trivial
 |x::l,d,c,h,k=>by
  simp only[JT,Bv,AO,Ac]at h;obtain⟨y,j,n,e,rfl⟩:=h;have f:=Cc i j;simp only[A2]at k;cases b:S.opd y with
  |a z=>
   rw[b]at k f;simp only[KM,BP]at k;obtain⟨o,m,rfl⟩:=k;exact⟨f,ny i l n o e m⟩
  |un=>rw[b]at k;simp[KM]at k
  |tp _=>rw[b]at k;simp[KM]at k
  |fn _ _=>rw[b]at k;simp[KM]at k
  |sb _ _=>rw[b]at k;simp[KM]at k
def po(hR:Rel N w0 own0 pl0 g pl S a w){o:Oper}{i:I}(ht:Dy P o.type o.op=some i)(h:ev S K i):
  ∃v x,(execOp a.eval o).run P w=.ok (.value v) w/\VR pl S.next x v/\K x:=by
 obtain⟨dst,op,ty,pos,after,guard⟩:=o;have lift:∀{s:Sem Value},Hx P pl S.next K s w->(execOp a.eval ⟨dst,op,ty,pos,after,guard⟩=do pure (.value (<- s))) ->
   ∃v x,(execOp a.eval ⟨dst,op,ty,pos,after,guard⟩).run P w=.ok (.value v) w/\VR pl S.next x v/\K x:=by
  rintro s ⟨v,x,hr,hv,hK⟩ he;refine⟨v,x, ?_,hv,hK⟩;rw[he];simp[hr]
 cases op with
 |move x=>
  simp only[Dy,BP]at ht;obtain⟨y,hy,rfl⟩:=ht;exact lift (od hR hy h) rfl
 |assign x=>
  simp only[Dy,BP]at ht;obtain⟨y,hy,rfl⟩:=ht;exact lift (od hR hy h) rfl
 |pick c x y=>exact lift (yk hR ht h) (by simp[execOp])
 |load t x=>exact lift (yh hR ht h) rfl
 |binOp op t x y t'=>exact lift (y9 hR ht h) rfl
 |unOp op t x=>exact lift (ym hR ht h) rfl
 |convert s d x=>exact lift (ya hR ht h) rfl
 |slice t x lo hi mx=>exact lift (yl hR ht h) rfl
 |fieldAddr t x f=>exact lift (yc hR ht h) rfl
 |field t x f=>exact lift (yd hR ht h) rfl
 |indexAddr t x y=>exact lift (ye hR ht h) rfl
 |index t x y=>exact lift (yf hR ht h) rfl
 |extract x n=>exact lift (yb hR ht h) rfl
 |nilCheck x=>
  simp only[Dy,BP]at ht;obtain⟨y,hy,rfl⟩:=ht;obtain⟨A,hA,z,hz,hK⟩:=yi hR hy h;refine⟨_,z, ?_,hz,hK⟩;simp[execOp,hA]
 |call c=>
  obtain⟨callee,args,tys⟩:=c;cases callee with
  |builtin b=>
   cases b<;>first
    |(simp[Dy]at ht;done)
    |exact lift (yg hR (ty':=ty) ht h) (by simp[execOp,resolve,invoke,builtin])
  |value f=>simp[Dy]at ht
  |invoke _ _=>simp[Dy]at ht
 |build t parts=>exact lift (y_ hR ht h) rfl
 |makeFunc fn first caps=>
  cases fn with
  |func f=>
   simp only[Dy]at ht;split at ht
   .rename_i hs;simp only[BP]at ht;obtain⟨xs,hxs,rfl⟩:=ht;simp only[ev]at h;obtain⟨as,has,hK⟩:=h;have:=ny hR _ _ _ hxs has;have hf:first=#[]:=Array.eq_empty_of_size_eq_zero hs
    subst hf;refine⟨.func (.func f) #[] (caps.map a.eval),.fn f as, ?_,⟨caps.toList.map a.eval, ?_,this⟩,hK⟩
    .simp[execOp,Instr.makeFunc]
    congr 1;apply Array.ext';simp
   simp at ht
  |_=>simp[Dy]at ht
 |_=>simp[Dy]at ht
end Go.Vs
namespace Go.Vs
variable [Glb]
def x3{b o a c:Nat}(h:¬(b=a/\o=c)):(⟨b,o,none⟩:Addr)≠⟨a,c,none⟩:=by
 intro e;injection e with e1 e2;exact h ⟨e1,e2⟩
def IC{w:World}{b o a c:Nat}{v:Value}(h:¬(b=a/\o=c)):(w.setCell ⟨b,o,none⟩ v).cell? ⟨a,c,none⟩=w.cell? ⟨a,c,none⟩:=
 World.cell?_setCell_other w _ _ v (x3 h)
section
variable {w0:World} {own0:Nat->Nat->Prop} {w:World}
def Fr.setCell(h:Fr w0 own0 w){b o:Nat}(a:w0.heap.size<=b\/own0 b o)(v:Value):Fr w0 own0 (w.setCell ⟨b,o,none⟩ v) where
 gl:=h.gl
 os:=h.os
 tape:=h.tape
 output:=h.output
 size:=by rw[World.size_setCell];exact h.size
 block:=λk d c=>by
  rw[RowKit.Below.heap_setCell _ _ _ _ (by rintro rfl;exact a.elim (λa=>by omega) (λa=>c _ a))];exact h.block k d c
 cell:=λk j d c=>by
  rw[World.frozen?_setCell];rw[IC (by rintro ⟨rfl,rfl⟩;exact a.elim (λa=>by omega) (λa=>c a))];exact h.cell k j d c
def Fr.alloc(h:Fr w0 own0 w)(o:Obj):Fr w0 own0 (w.alloc o) where
 gl:=h.gl
 os:=h.os
 tape:=h.tape
 output:=h.output
 size:=by have:=h.size;simp;omega
 block:=λk a b=>by
  have:=h.size;rw[RowKit.Below.heap_alloc _ _ _ (by omega)];exact h.block k a b
 cell:=λk j a b=>by
  have:=h.size;rw[World.cell?_alloc_old w o _ (by simp;omega),World.frozen?_alloc_old w o _ (by simp;omega)];exact h.cell k j a b
def Fr.drew(h:Fr w0 own0 w):Fr w0 own0 w.drew:=⟨h.os,h.tape,h.output,h.size,h.block,h.cell,h.gl⟩
def Fr.refl(w:World)(own0:Nat->Nat->Prop)(a:∀b o v,GU b o=some v->b<w.heap.size/\¬own0 b o/\w.cell? ⟨b,o,none⟩=some v):Fr w own0 w:=⟨rfl,rfl,rfl,AE _,λ_ _ _=>rfl,λ_ _ _ _=>⟨rfl,rfl⟩,a⟩
end
structure Keep (st:Nat->Nat->Prop) (w:World) (g:Bp) (pl:Aw) (nx:Nat) (w':World) (g':Bp) (pl':Aw) (nx':Nat) (r:Nat):Prop where
 lab:∀b o q,g b o=some (r,q)->g' b o=some (r,q)/\w'.cell? ⟨b,o,none⟩=w.cell? ⟨b,o,none⟩/\w'.frozen? ⟨b,o,none⟩=w.frozen? ⟨b,o,none⟩
 st:∀b o,st b o->w'.cell? ⟨b,o,none⟩=w.cell? ⟨b,o,none⟩
 pl:∀q,pl' r q=pl r q
def Q5{i len c b a:Nat}(h:i<len)(e:len<=a)(d:c<b):i*b+c<a*b:=by
 have:(i+1)*b<=a*b:=HQ _ (by omega);rw[Fn,Yg]at this;omega
def NodeC.bound{w:World}{pl:Aw}{r:Nat}{p:Ao}{b:Nat}{f:List (List D)}(h:NodeC w pl r p b f){i c:Nat}{e:List D}{d:D}
  (k:f[i]?= some e) (hd:e[c]?= some d):i<f.length/\c<b/\i*b+c<(pl r p).cap*b/\i*b+c<f.length*b:=by
 have j:i<f.length:=by
  rcases Jc i f.length with a|a
  .exact a
  simp[KF a]at k
 have g:c<b:=by
  rw[<-h.szs e (CP k)];rcases Jc c e.length with a|a
  .exact a
  simp[KF a]at hd
 exact⟨j,g,Q5 j h.le g,Q5 j (AE _) g⟩
def NodeC.move{w o:World}{pl a:Aw}{r n:Nat}{p m:Ao}{sz:Nat}{es:List (List D)}(h:NodeC w pl r p sz es)
  (f:a n m=pl r p) (g:∀i c e d,es[i]?= some e->e[c]?= some d->a n (m++[(i,c)])=pl r (p++[(i,c)]))
  (q:∀j,j<es.length*sz->o.cell? ⟨(pl r p).b,(pl r p).off+j,none⟩=w.cell? ⟨(pl r p).b,(pl r p).off+j,none⟩):NodeC o a n m sz es where
 szp:=by rw[f];exact h.szp
 le:=by rw[f];exact h.le
 nil:=by rw[f];exact h.nil
 szs:=h.szs
 cells:=λi e c d l hd=>by
  obtain⟨v,s,k⟩:=h.cells i e c d l hd;refine⟨v, ?_,by rw[g i c e d l hd];exact k⟩;rw[f,q _ (h.bound l hd).2.2.2];exact s
def MK.move{w e:World}{g f:Bp}{pl a:Aw}{r d:Nat}{p c:Ao}(h:MK w g pl r p)(q:a d c=pl r p)
  (n:∀b o,g b o=some (r,p)->f b o=some (d,c)/\((∃v,w.cell? ⟨b,o,none⟩=some v)->∃v,e.cell? ⟨b,o,none⟩=some v)/\e.frozen? ⟨b,o,none⟩=w.frozen? ⟨b,o,none⟩):MK e f a d c:=by
 intro j i;rw[q]at i ⊢;obtain⟨k,l,m⟩:=h j i;obtain⟨s,t,u⟩:=n _ _ k;exact⟨s,t l,u.trans m⟩
def Root.map(k:C->C):Root->Root
 |.bx a=>.bx (a.map k)
 |.ib a=>.ib (a.map k)
 |x=>x
def Keep.root{D:Nat->Nat->Prop}{w F:World}{g E:Bp}{pl f:Aw}{B e r:Nat}{κ:C->C}(k:Keep D w g pl B F E f e r)(hκ:∀x v,CR pl B x v->CR f e (κ x) v)
  {x:Root} (h:Er D w g pl B r x):Er D F E f e r (x.map κ):=by
 cases x with
 |tr M I=>
  intro p n z;obtain⟨i,l⟩:=h p n z;refine⟨i.move (k.pl p) (λ_ _ _ _ _ _=>k.pl _) λj s=>?_,l.move (k.pl p) λb o K=>?_⟩
  .have:=HQ n.1 i.le;exact (k.lab _ _ _ (l j (by rw[i.szp];omega)).1).2.1
  obtain⟨a,G,c⟩:=k.lab _ _ _ K;exact⟨a,λ⟨v,L⟩=>⟨v,by rw[G];exact L⟩,c⟩
 |im M I=>
  intro p n z;obtain⟨i,l⟩:=h p n z;refine⟨i.move (k.pl p) (λ_ _ _ _ _ _=>k.pl _) λj s=>?_,λj s=>?_⟩
  .exact k.st _ _ (l j (by rw[i.szp];omega))
  rw[k.pl]at s ⊢;exact l j s
 |bx H=>
  intro c x m;simp only[CQ,BP]at m;obtain⟨y,A,rfl⟩:=m;obtain⟨v,t,u,q,J⟩:=h c y A;obtain⟨a,b,d⟩:=k.lab _ _ _ q;rw[k.pl];exact⟨v,by rw[b];exact t,hκ _ _ u,a,by rw[d];exact J⟩
 |ib H=>
  intro c x m;simp only[CQ,BP]at m;obtain⟨y,A,rfl⟩:=m;obtain⟨v,t,u,q⟩:=h c y A;rw[k.pl];exact⟨v,by rw[k.st _ _ q];exact t,hκ _ _ u,q⟩
def Root.map_id(x:Root):x.map (λc=>c)=x:=by cases x<;>simp[Root.map]
def Keep.root'{d:Nat->Nat->Prop}{w w':World}{g e:Bp}{pl b:Aw}{nx a r:Nat}(k:Keep d w g pl nx w' e b a r)(hκ:∀x v,CR pl nx x v->CR b a x v)
  {x:Root} (h:Er d w g pl nx r x):Er d w' e b a r x:=by
 have:=k.root (κ:=λc=>c) hκ h
 rwa[Root.map_id]at this
section
variable {w0:World} {own0:Nat->Nat->Prop} {pl0:Aw} {g:Bp} {pl:Aw} {roots:List (Nat×Root)} {nx nc fix:Nat} {w:World}
def Hp.drew(h:Hp w0 own0 pl0 g pl roots nx nc fix w):Hp w0 own0 pl0 g pl roots nx nc fix w.drew:=⟨h.fr.drew,h.lab,h.fixed,h.fixle,h.ncle,λr x a=>⟨(h.roots r x a).1,Keep.root' (w:=w) (w':=w.drew) (g:=g) (pl:=pl) (nx:=nc) ⟨λb o q c=>⟨c,rfl,rfl⟩,λ_ _ _=>rfl,λ_=>rfl⟩ (λ_ _ k=>k) (h.roots r x a).2⟩⟩
def Hp.bump(h:Hp w0 own0 pl0 g pl roots nx nc fix w):Hp w0 own0 pl0 g pl roots nx nx fix w:=
 ⟨h.fr,h.lab,h.fixed,h.fixle,AE _,λr x a=>⟨(h.roots r x a).1,Keep.root' (nx:=nc) ⟨λb o q c=>⟨c,rfl,rfl⟩,λ_ _ _=>rfl,λ_=>rfl⟩ (λ_ _ k=>k.mono h.ncle) (h.roots r x a).2⟩⟩
def FY(pl:Aw)(nx:Nat)(L:Ao->Pl):Aw:=λr q=>if r=nx then L q else pl r q
def Nt(g:Bp)(B nx:Nat)(a:Nat->Option Ao):Bp:=λb o=>if b=B then (a o).map λq=>(nx,q) else g b o
def D6(pl:Aw)(nx:Nat)(L:Ao->Pl):FO nx pl (FY pl nx L):=λr p h=>by unfold FY;rw[Ae (by omega)]
def CU(pl:Aw)(nx:Nat)(L:Ao->Pl)(q:Ao):FY pl nx L nx q=L q:=by unfold FY;rw[Af rfl]
def Hp.lab_ne(h:Hp w0 own0 pl0 g pl roots nx nc fix w){b o:Nat}{x:Nat×Ao}(a:g b o=some x):b≠w.heap.size:=by have:=(h.lab b o x a).1;omega
def Hp.new(h:Hp w0 own0 pl0 g pl roots nx nc fix w)(o:Obj)(x:Root)(L:Ao->Pl)(n:Nat->Option Ao)
  (u:Er (G2 w0 own0) (w.alloc o) (Nt g w.heap.size nx n) (FY pl nx L) nc nx x):
  Hp w0 own0 pl0 (Nt g w.heap.size nx n) (FY pl nx L) ((nx,x)::roots) (nx+1) nc fix (w.alloc o) where
 fr:=h.fr.alloc o
 lab:=λb i y d=>by
  have t:=h.fr.size;unfold Nt at d;split at d
  .rename_i j;subst j;simp only[BP]at d;obtain⟨q,z,rfl⟩:=d;exact⟨by simp,.inl t,by simp⟩
  obtain⟨a,s,c⟩:=h.lab b i y d;exact⟨by simp;omega,s,by omega⟩
 fixed:=λr p f=>by rw[D6 pl nx L r p (by have:=h.fixle;omega)];exact h.fixed r p f
 fixle:=by have:=h.fixle;omega
 ncle:=by have:=h.ncle;omega
 roots:=λr y d=>by
  simp only[get]at d;split at d
  .rename_i f;subst f;simp only[Ac]at d;subst d;exact⟨by omega,u⟩
  obtain⟨f,l⟩:=h.roots r y d;refine⟨by omega,Keep.root' ⟨?_, ?_, ?_⟩ (λx v k=>k.agree λr p f=>D6 pl nx L r p (by have:=h.ncle;omega)) l⟩
  .intro b i q j;have e:=h.lab_ne j;exact⟨by unfold Nt;rw[Ae e];exact j,World.cell?_alloc_old w o _ (by simpa using e),World.frozen?_alloc_old w o _ (by simpa using e)⟩
  .intro b i m;have:=h.fr.size;exact World.cell?_alloc_old w o _ (by simp;have:=m.1;omega)
  intro q;exact D6 pl nx L r q f
def Hp.newBox(h:Hp w0 own0 pl0 g pl roots nx nc fix w)(b:List C)(d:List Value)(t:TypeId)(a:Ai (CR pl nc) b d):
  Hp w0 own0 pl0 (Nt g w.heap.size nx λo=>some [(0,o)]) (FY pl nx λ_=>⟨false,w.heap.size,0,0,1,none⟩) ((nx,.bx b)::roots) (nx+1) nc fix (w.alloc (.cells d.toArray t)):=by
 refine h.new _ _ _ _ ?_;intro c x i;obtain⟨v,f,e⟩:=a.get c x i;rw[CU];refine⟨v, ?_,e.agree λr p j=>D6 _ _ _ r p (by have:=h.ncle;omega), ?_, ?_⟩
 .simp[f]
 .simp[Nt]
 simp
def Hp.newBox_ptr:CR (FY pl nx λ_=>⟨false,w.heap.size,0,0,1,none⟩) (nx+1) (.pb nx 0) (.pointer (some ⟨w.heap.size,0,none⟩)):=by
 refine⟨by omega, ?_⟩;rw[CU]
def Hp.setBox(h:Hp w0 own0 pl0 g pl roots nx nc fix w){r:Nat}{s:List C}(K:get roots r=some (.bx s)){c:Nat}(I:c<s.length){y:C}{u:Value}(L:CR pl nc y u):
  Hp w0 own0 pl0 g pl (put roots r (.bx (s.set c y))) nx nc fix (w.setCell ⟨(pl r []).b,(pl r []).off+c,none⟩ u) /\
   ∃v,w.cell? ⟨(pl r []).b,(pl r []).off+c,none⟩=some v/\w.frozen? ⟨(pl r []).b,(pl r []).off+c,none⟩=false:=by
 obtain⟨B,j⟩:=h.roots r _ K;obtain⟨v,D,J,t,f⟩:=j c _ (BW I);have a:=h.lab _ _ _ t;refine⟨⟨h.fr.setCell a.2.1 u, ?_,h.fixed,h.fixle,h.ncle, ?_⟩,v,D,f⟩
 .intro b o x d;rw[World.size_setCell];exact h.lab b o x d
 intro M x d;rw[Bn]at d;split at d
 .rename_i e;subst e;simp only[Ac]at d;subst d;refine⟨B, ?_⟩;intro k z n;rw[Fo]at n;split at n
  .rename_i e;subst e;simp only[Ac]at n;subst n;exact⟨u,World.cell?_setCell_same w _ u D,L,t,by rw[World.frozen?_setCell];exact f⟩
  rename_i i;obtain⟨N,E,F,G,H⟩:=j k z n;exact⟨N,by rw[IC (by omega)];exact E,F,G,by rw[World.frozen?_setCell];exact H⟩
 rename_i i;obtain⟨A,l⟩:=h.roots M x d;refine⟨A,Keep.root' ⟨?_, ?_,λ_=>rfl⟩ (λ_ _ k=>k) l⟩
 .intro b o q p;refine⟨p,IC ?_,World.frozen?_setCell ..⟩;rintro ⟨rfl,rfl⟩;rw[t]at p;simp only[Ac,A5]at p;exact i p.1
 intro b o m;refine IC ?_;rintro ⟨rfl,rfl⟩;rcases a.2.1 with k|k
 .have:=m.1;omega
 exact m.2 k
end
end Go.Vs
namespace Go.Vs
variable [Glb]
def Gk(a:List (List D))(i c:Nat)(d:D):List (List D):=
 match a[i]? with
 |some e=>a.set i (e.set c d)
 |none=>a
def EL:List (List D)->Ao->(List (List D)->List (List D))->List (List D)
 |a,[],f=>f a
 |a,(i,c)::p,f=>
  match a[i]? with
  |some e=>match e[c]? with
   |some (.sl d b)=>a.set i (e.set c (.sl d (EL b p f)))
   |_=>a
  |none=>a
def DQ(a:List (List D))(p:Ao)(i c:Nat)(d:D):List (List D):=EL a p λl=>Gk l i c d
def Qg(a:List (List D))(p:Ao):List (List D):=
 match p.getLast? with
 |some (i,c)=>DQ a p.dropLast i c .hole
 |none=>a
def fi(a:List (List D))(p:Ao)(i c:Nat):Qg a (p++[(i,c)])=DQ a p i c .hole:=by
 simp[Qg]
def eb(d a:D):Prop:=d=a\/∃c l b,d=.sl c l/\a=.sl c b/\l.length=b.length
def Ol(l f:List (List D)):Prop:=l.length=f.length/\∀(i:Nat) (e:List D),l[i]?= some e->∃a:List D,f[i]?= some a/\e.length=a.length/\∀(c:Nat) (d:D),e[c]?= some d->∃b,a[c]?= some b/\eb d b
def Ol.refl(l:List (List D)):Ol l l:=⟨rfl,λi e h=>⟨e,h,rfl,λc d hd=>⟨d,hd,.inl rfl⟩⟩⟩
def DV.sim{L:Pl}{d a:D}{v:Value}(s:eb d a)(h:DV L a v):DV L d v:=by
 rcases s with rfl|⟨c,l,b,rfl,rfl,e⟩
 .exact h
 exact⟨h.1,by rw[e];exact h.2⟩
def NodeC.sim{w:World}{pl:Aw}{r:Nat}{p:Ao}{m:Nat}{l k:List (List D)}(h:NodeC w pl r p m k)(s:Ol l k):NodeC w pl r p m l where
 szp:=h.szp
 le:=by rw[s.1];exact h.le
 nil:=h.nil
 szs:=λe g=>by
  obtain⟨i,q⟩:=Kd g;obtain⟨a,b,j,_⟩:=s.2 i e q;rw[j];exact h.szs a (CP b)
 cells:=λi e c d g hd=>by
  obtain⟨a,b,j,o⟩:=s.2 i e g;obtain⟨n,f,u⟩:=o c d hd;obtain⟨v,x,t⟩:=h.cells i a c n b f;exact⟨v,x,t.sim u⟩
def getElem?_lt{α:Type}{l:List α}{i:Nat}{x:α}(h:l[i]?= some x):i<l.length:=by
 rcases Jc i l.length with a|a
 .exact a
 simp[KF a]at h
def Znp{g:List (List D)}{i c:Nat}{e:List D}{d f:D}(m:g[i]?= some e)(hd:e[c]?= some f)(s:eb d f):Ol (g.set i (e.set c d)) g:=by
 refine⟨by simp,λj x b=>?_⟩;rw[Fo]at b;split at b
 .rename_i l;subst l;split at b
  .simp only[Ac]at b;subst b;refine⟨e,m,by simp,λk y a=>?_⟩;rw[Fo]at a;split at a
   .rename_i h;subst h;split at a
    .simp only[Ac]at a;subst a;exact⟨f,hd,s⟩
    simp at a
   exact⟨y,a,.inl rfl⟩
  simp at b
 exact⟨x,b,rfl,λk y a=>⟨y,a,.inl rfl⟩⟩
def Zpe{d:Nat}{b:List (List D)}{p:Ao}{f:List (List D)->List (List D)}{n:Nat×List (List D)}(e:AH d b p=some n)(g:(f n.2).length=n.2.length):
  (EL b p f).length=b.length:=by
 cases p with
 |nil=>simp only[AH,Ac]at e;subst e;exact g
 |cons a p=>
  obtain⟨i,c⟩:=a;unfold EL;split
  .split<;>simp
  rfl
def sN{b:Nat}{a:List (List D)}{i c:Nat}{e:List D}{d:D}(l:a[i]?= some e){j k:Nat}(q:Ao)(h:¬(j=i/\k=c)):
  AH b (a.set i (e.set c d)) ((j,k)::q)=AH b a ((j,k)::q):=by
 simp only[AH];have:((a.set i (e.set c d))[j]?).bind (·[k]?)=(a[j]?).bind (·[k]?):=by
  rw[Fo];split
  .rename_i g;subst g;split
   .rename_i m;simp only[DF,l];rw[Fo,Ae (λf=>h ⟨rfl,f.symm⟩)]
   rename_i m;rw[KF (by omega)]
  rfl
 rw[this]
def jY{f:Nat}{g:List (List D)}{i c:Nat}{e:List D}{d h:D}(l:g[i]?= some e)(hd:e[c]?= some h)(q:Ao):
  AH f (g.set i (e.set c d)) ((i,c)::q)=match d with|.sl b a=>AH b a q|_=>none:=by
 have j:=getElem?_lt l;have k:=getElem?_lt hd;simp only[AH];rw[Fo,Af rfl,Af j];simp only[DF];rw[Fo,Af rfl,Af k];cases d<;>rfl
def dF{f:List (List D)->List (List D)}:∀{p:Ao}{b:Nat}{s:List (List D)}{n:Nat×List (List D)},AH b s p=some n->(f n.2).length=n.2.length ->
  ∀(q:Ao) (m:Nat×List (List D)),AH b (EL s p f) q=some m ->
   (∃v,q=p++v/\AH n.1 (f n.2) v=some m)\/(∃u,AH b s q=some u/\¬p <+: q/\m.1=u.1/\Ol m.2 u.2)
 |[],b,s,n,l,w,q,m,g=>by
  simp only[AH,Ac]at l;subst l;exact .inl ⟨q,rfl,g⟩
 |(i,c)::p,b,s,n,l,w,q,m,g=>by
  simp only[AH]at l;split at l
  .rename_i E y d;simp only[AO]at d;obtain⟨e,t,hd⟩:=d;simp only[EL,t,hd]at g;cases q with
   |nil=>
    simp only[AH,Ac]at g;subst g;refine .inr ⟨(b,s),rfl,by simp,rfl,Znp t hd (.inr ⟨_,_,_,rfl,rfl,Zpe l w⟩)⟩
   |cons a q=>
    obtain⟨j,k⟩:=a;by_cases r:j=i/\k=c
    .obtain⟨rfl,rfl⟩:=r;rw[jY t hd]at g;simp only at g;rcases dF l w q m g with ⟨v,rfl,h⟩|⟨u,z,A,B,C⟩
     .exact .inl ⟨v,rfl,h⟩
     refine .inr ⟨u, ?_,by simpa using A,B,C⟩;simp only[AH,t,DF,hd];exact z
    rw[sN t q r]at g;refine .inr ⟨m,g, ?_,rfl,Ol.refl _⟩;intro o;rw[Yh]at o;obtain⟨x,_⟩:=o;simp only[A5]at x;exact r ⟨x.1.symm,x.2.symm⟩
  simp at l
def cS{u:Nat}{x:List (List D)}{p:Ao}{n:Nat×List (List D)}(A:AH u x p=some n){i c:Nat}{e:List D}{B:D}(y:n.2[i]?= some e)(hd:e[c]?= some B)(d:D)
  (q:Ao) (m:Nat×List (List D)) (C:AH u (DQ x p i c d) q=some m):
  (q=p/\m=(n.1,n.2.set i (e.set c d)))\/(∃t o g,q=p++(i,c)::t/\d=.sl o g/\AH o g t=some m) \/
   (∃w,AH u x q=some w/\q≠p/\¬(p++[(i,c)]) <+: q/\m.1=w.1/\Ol m.2 w.2):=by
 have r:Gk n.2 i c d=n.2.set i (e.set c d):=by simp[Gk,y]
 rcases dF (f:=λl=>Gk l i c d) A (by simp only[r];simp) q m C with ⟨t,rfl,h⟩|⟨w,h1,h2,h3,h4⟩
 .simp only[r]at h;cases t with
  |nil=>simp only[AH,Ac]at h;exact .inl ⟨by simp,h.symm⟩
  |cons a t=>
   obtain⟨j,k⟩:=a;by_cases s:j=i/\k=c
   .obtain⟨rfl,rfl⟩:=s;rw[jY y hd]at h;cases d with
    |sl o g=>exact .inr (.inl ⟨t,o,g,rfl,rfl,h⟩)
    |lf v=>simp at h
    |hole=>simp at h
   rw[sN y t s]at h;refine .inr (.inr ⟨m, ?_,by simp, ?_,rfl,Ol.refl _⟩)
   .rw[Mb,A];exact h
   intro b;rw[mT,Yh]at b;obtain⟨z,_⟩:=b;simp only[A5]at z;exact s ⟨z.1.symm,z.2.symm⟩
 refine .inr (.inr ⟨w,h1, ?_, ?_,h3,h4⟩)
 .rintro rfl;exact h2 (List.prefix_refl _)
 intro b;exact h2 ((U4 p _).trans b)
end Go.Vs
namespace Go.Vs
variable [Glb]
def ri{i j c k b:Nat}(d:c<b)(e:k<b)(h:i*b+c=j*b+k):i=j/\c=k:=by
 rcases mU i j with a|a|a
 .have:=HQ b (show i+1<=j by omega);rw[Fn,Yg]at this;omega
 .subst a;omega
 have:=HQ b (show j+1<=i by omega);rw[Fn,Yg]at this;omega
def NodeC.set{w J:World}{pl g:Aw}{r:Nat}{p:Ao}{t:Nat}{z:List (List D)}(h:NodeC w pl r p t z){i c:Nat}{e:List D}{K:D}(H:z[i]?= some e)(hd:e[c]?= some K)(d:D)
  (A:g r p=pl r p) (E:∀j k,¬(j=i/\k=c)->g r (p++[(j,k)])=pl r (p++[(j,k)]))
  (O:∀j,j<(pl r p).cap*t->j≠i*t+c->J.cell? ⟨(pl r p).b,(pl r p).off+j,none⟩=w.cell? ⟨(pl r p).b,(pl r p).off+j,none⟩)
  {u:Value} (M:J.cell? ⟨(pl r p).b,(pl r p).off+(i*t+c),none⟩=some u) (G:DV (g r (p++[(i,c)])) d u):NodeC J g r p t (z.set i (e.set c d)) where
 szp:=by rw[A];exact h.szp
 le:=by rw[A];simp;exact h.le
 nil:=by rw[A];exact h.nil
 szs:=λx a=>by
  obtain⟨j,l⟩:=Kd a;rw[Fo]at l;split at l
  .split at l
   .simp only[Ac]at l;subst l;rw[U3];exact h.szs e (CP H)
   simp at l
  exact h.szs x (CP l)
 cells:=λj x k y a m=>by
  rw[A];have C:=h.bound H hd;by_cases f:j=i/\k=c
  .obtain⟨rfl,rfl⟩:=f;rw[Fo,Af rfl,Af C.1]at a;simp only[Ac]at a;subst a;rw[Fo,Af rfl,Af (getElem?_lt hd)]at m;simp only[Ac]at m;subst m;exact⟨u,M,G⟩
  have o:∃B,z[j]?= some B/\B[k]?= some y:=by
   rw[Fo]at a;split at a
   .rename_i I;subst I;rw[Af C.1]at a;simp only[Ac]at a;subst a;rw[Fo,Ae (λF=>f ⟨rfl,F.symm⟩)]at m;exact⟨e,H,m⟩
   exact⟨x,a,m⟩
  obtain⟨B,q,s⟩:=o;obtain⟨v,N,L⟩:=h.cells j B k y q s;have n:=h.bound q s;refine⟨v, ?_,by rw[E j k f];exact L⟩;rw[O _ n.2.2.1 (λe=>f (ri n.2.1 C.2.1 e))];exact N
def MK.lab{w:World}{g:Bp}{pl:Aw}{r:Nat}{p:Ao}{a:Nat}{c:List (List D)}(m:MK w g pl r p)(h:NodeC w pl r p a c){j:Nat}(d:j<(pl r p).cap*a):
  g (pl r p).b ((pl r p).off+j)=some (r,p):=(m j (by rw[h.szp];exact d)).1
section
variable {w0:World} {own0:Nat->Nat->Prop} {pl0:Aw} {g:Bp} {pl:Aw} {roots:List (Nat×Root)} {nx nc fix:Nat} {w:World}
def rK(h:Hp w0 own0 pl0 g pl roots nx nc fix w){b o r:Nat}{p:Ao}(e:g b o=some (r,p))(u:Value){f:Nat}(d:f≠r):
  Keep (G2 w0 own0) w g pl nc (w.setCell ⟨b,o,none⟩ u) g pl nc f where
 lab:=λi j q c=>by
  refine⟨c,IC ?_,World.frozen?_setCell ..⟩;rintro ⟨rfl,rfl⟩;rw[e]at c;simp only[Ac,A5]at c;exact d c.1.symm
 st:=λi j a=>by
  refine IC ?_;rintro ⟨rfl,rfl⟩;rcases (h.lab _ _ _ e).2.1 with k|k
  .have:=a.1;omega
  exact a.2 k
 pl:=λ_=>rfl
def Hp.setLeaf(h:Hp w0 own0 pl0 g pl roots nx nc fix w){r s:Nat}{F:List (List D)}(hr:get roots r=some (.tr s F)){p:Ao}{n:Nat×List (List D)}(S:AH s F p=some n)
  {i c:Nat} {e:List D} {U:D} (H:n.2[i]?= some e) (hd:e[c]?= some U) {u:Value} (hu:u.oneCell'=true):
  Hp w0 own0 pl0 g pl (put roots r (.tr s (DQ F p i c (.lf u)))) nx nc fix (w.setCell ⟨(pl r p).b,(pl r p).off+(i*n.1+c),none⟩ u) /\
   ∃v,w.cell? ⟨(pl r p).b,(pl r p).off+(i*n.1+c),none⟩=some v/\w.frozen? ⟨(pl r p).b,(pl r p).off+(i*n.1+c),none⟩=false:=by
 obtain⟨M,C⟩:=h.roots r _ hr;obtain⟨G,R⟩:=C p n S;have hb:=G.bound H hd;have K:=R (i*n.1+c) (by rw[G.szp];exact hb.2.2.1);obtain⟨J,⟨v,N⟩,I⟩:=K;have A:=h.lab _ _ _ J;refine⟨⟨h.fr.setCell A.2.1 u, ?_,h.fixed,h.fixle,h.ncle, ?_⟩,v,N,I⟩
 .intro b o x l;rw[World.size_setCell];exact h.lab b o x l
 intro r' x l;rw[Bn]at l;split at l
 .rename_i V;subst V;simp only[Ac]at l;subst l;refine⟨M, ?_⟩;intro q m hq;rcases cS S H hd (.lf u) q m hq with ⟨rfl,rfl⟩|⟨q',a0,W,rfl,t,_⟩|⟨T,X,Y,h3,Z,P⟩
  .refine⟨G.set H hd (.lf u) rfl (λ_ _ _=>rfl) (λj Q d=>IC (by omega)) (World.cell?_setCell_same w _ u N) ⟨rfl,hu⟩,R.move rfl λb o a=>⟨a,λ⟨z,O⟩=>?_,World.frozen?_setCell ..⟩⟩;by_cases y:(pl r q).b=b/\(pl r q).off+(i*n.1+c)=o
   .obtain⟨rfl,rfl⟩:=y;exact⟨u,World.cell?_setCell_same w _ u N⟩
   exact⟨z,by rw[IC y];exact O⟩
  .cases t
  obtain⟨f,B⟩:=C q T X;have d:∀b o,g b o=some (r,q)->¬((pl r p).b=b/\(pl r p).off+(i*n.1+c)=o):=by
   rintro b o a ⟨rfl,rfl⟩;rw[J]at a;simp only[Ac,A5,H3]at a;exact Y a.symm
  rw[Z];refine⟨(f.sim P).move rfl (λ_ _ _ _ _ _=>rfl) λj Q=>IC (d _ _ (B.lab f ?_)),B.move rfl λb o a=>⟨a,λ⟨z,O⟩=>⟨z,by rw[IC (d _ _ a)];exact O⟩,World.frozen?_setCell ..⟩⟩;have:=HQ T.1 f.le;rw[P.1]at Q;omega
 rename_i d;obtain⟨L,E⟩:=h.roots r' x l;exact⟨L,(rK h J u (λe=>d e.symm)).root' (λ_ _ k=>k) E⟩
def IR(pl:Aw)(R:Nat)(a:Ao)(L:Ao->Pl):Aw:=λr q=>if r=R/\a <+: q then L (q.drop a.length) else pl r q
def sv(pl:Aw)(R:Nat)(a:Ao)(L:Ao->Pl)(q:Ao):IR pl R a L R (a++q)=L q:=by
 unfold IR;rw[Af ⟨rfl,U4 _ _⟩];simp
def jg(pl:Aw)(R:Nat)(a:Ao)(L:Ao->Pl):IR pl R a L R a=L []:=by
 have:=sv pl R a L [];simpa using this
def IS{pl:Aw}{R:Nat}{a:Ao}{L:Ao->Pl}{r:Nat}{q:Ao}(h:¬(r=R/\a <+: q)):IR pl R a L r q=pl r q:=by
 unfold IR;rw[Ae h]
def Qu(κ:C->C)(r:Nat):∀l:List (Nat×Root),get (l.map λx=>(x.1,x.2.map κ)) r=(get l r).map (Root.map κ)
 |[]=>rfl
 |(k,y)::l=>by simp only[A2,get];split<;>simp[Qu κ r l]
def Q9{p:Ao}{i c:Nat}:¬(p++[(i,c)]) <+: p:=by
 intro a;have:=a.length_le;simp at this;omega
def sS{p:Ao}{i c j k:Nat}(d:¬(j=i/\k=c)):¬(p++[(i,c)]) <+: (p++[(j,k)]):=by
 intro a;rw[mT,Yh]at a;obtain⟨b,_⟩:=a;simp only[A5]at b;exact d ⟨b.1.symm,b.2.symm⟩
def sT{p q:Ao}{i c j k:Nat}(b:q≠p)(d:¬(p++[(i,c)]) <+: q):¬(p++[(i,c)]) <+: (q++[(j,k)]):=by
 intro a;rcases List.prefix_concat_iff.1 a with e|e
 .exact b (List.append_inj' e rfl).1.symm
 exact d e
def Hp.setNil(h:Hp w0 own0 pl0 g pl roots nx nc fix w){r E:Nat}{K:List (List D)}(hr:get roots r=some (.tr E K)){p:Ao}{n:Nat×List (List D)}(V:AH E K p=some n)
  {i c:Nat} {e:List D} (I:n.2[i]?= some e) (hd:e[c]?= some (.lf (.slice none 0 0))) (B:Nat) (U:fix<=r) {κ:C->C}
  (hκ:∀x u,CR pl nc x u->CR (IR pl r (p++[(i,c)]) λ_=>⟨true,0,0,0,B,none⟩) nc (κ x) u):
  Hp w0 own0 pl0 g (IR pl r (p++[(i,c)]) λ_=>⟨true,0,0,0,B,none⟩) (put (roots.map λx=>(x.1,x.2.map κ)) r (.tr E (DQ K p i c (.sl B [])))) nx nc fix w:=by
 obtain⟨R,G⟩:=h.roots r _ hr;obtain⟨M,hm⟩:=G p n V;have T:=M.bound I hd;obtain⟨v,hv,O⟩:=M.cells i e c _ I hd;have d:∀q,¬(p++[(i,c)]) <+: q->IR pl r (p++[(i,c)]) (λ_=>⟨true,0,0,0,B,none⟩) r q=pl r q:=λq l=>IS λk=>l k.2;refine⟨h.fr,h.lab, ?_,h.fixle,h.ncle, ?_⟩
 .intro S q z;rw[IS (by rintro ⟨rfl,_⟩;omega)];exact h.fixed S q z
 intro S x A;rw[Bn]at A;split at A
 .rename_i X;subst X;simp only[Ac]at A;subst A;refine⟨R, ?_⟩;intro q m l;rcases cS V I hd (.sl B []) q m l with ⟨rfl,rfl⟩|⟨W,a0,Y,rfl,f,t⟩|⟨m0,Z,h2,L,h4,h5⟩
  .refine⟨M.set I hd (.sl B []) (d _ Q9) (λj k P=>d _ (sS P)) (λj J F=>rfl) hv ?_,hm.move (d _ Q9) λb o s=>⟨s,id,rfl⟩⟩;rw[jg];exact⟨rfl,O.1⟩
  .simp only[D.sl.injEq]at f;obtain⟨rfl,rfl⟩:=f;cases W with
   |nil=>
    simp only[AH,Ac]at t;subst t;have l:=jg pl r (p++[(i,c)]) λ_=>⟨true,0,0,0,B,none⟩;refine⟨⟨by rw[l],by rw[l];simp,by rw[l];simp,by simp,by simp⟩, ?_⟩;intro j J;rw[l]at J;simp at J
   |cons a W=>
    obtain⟨j,k⟩:=a;simp[AH]at t
  obtain⟨N,Q⟩:=G q m0 Z;rw[h4];exact⟨(N.sim h5).move (d _ L) (λj k _ _ _ _=>d _ (sT h2 L)) λj J=>rfl,Q.move (d _ L) λb o s=>⟨s,id,rfl⟩⟩
 rename_i F;rw[Qu]at A;simp only[BP]at A;obtain⟨y,hy,rfl⟩:=A;obtain⟨z,H⟩:=h.roots S y hy;refine⟨z,Keep.root ⟨λb o q T=>⟨T,rfl,rfl⟩,λ_ _ _=>rfl,λq=>?_⟩ hκ H⟩;exact IS (by rintro ⟨rfl,_⟩;exact F rfl)
def BV(roots:List (Nat×Root))(r:Nat)(p:Ao):List (Nat×Root):=
 match p with
 |[]=>BR roots r
 |_=>match get roots r with
  |some (.tr b a)=>put roots r (.tr b (Qg a p))
  |_=>roots
def vY{d:Nat}{b:List (List D)}{n:Nat}{q:Ao}{m:Nat×List (List D)}(h:AH d (b.take n) q=some m):
  (q=[]/\m=(d,b.take n))\/(q≠[]/\AH d b q=some m):=by
 cases q with
 |nil=>simp only[AH,Ac]at h;exact .inl ⟨rfl,h.symm⟩
 |cons a q=>
  obtain⟨i,c⟩:=a;refine .inr ⟨by simp, ?_⟩;unfold AH at h ⊢;by_cases e:i<n
  .rw[EM,Af e]at h;exact h
  rw[EM,Ae e]at h;simp at h
def NodeC.take{w:World}{pl:Aw}{r:Nat}{p:Ao}{j:Nat}{b:List (List D)}(h:NodeC w pl r p j b)(n:Nat):NodeC w pl r p j (b.take n) where
 szp:=h.szp
 le:=by rw[EF];have:=h.le;omega
 nil:=h.nil
 szs:=λe a=>h.szs e (G4 a)
 cells:=λi e c d a hd=>by
  rw[EM]at a;by_cases f:i<n
  .rw[Af f]at a;exact h.cells i e c d a hd
  rw[Ae f]at a;simp at a
def Ld(g:Bp)(r:Nat)(p:Ao)(R:Nat)(P:Ao):Bp:=λb o=>
 match g b o with
 |some (a,q)=>if a=r/\p <+: q then some (R,P++q.drop p.length) else some (a,q)
 |none=>none
def iw{g:Bp}{r:Nat}{p:Ao}{R:Nat}{P:Ao}{b o:Nat}{q:Ao}(h:g b o=some (r,p++q)):Ld g r p R P b o=some (R,P++q):=by
 unfold Ld;rw[h];simp only[H3,U4,BF];simp
def SK{g:Bp}{r:Nat}{p:Ao}{R:Nat}{P:Ao}{b o:Nat}{a:Nat}{q:Ao}(h:g b o=some (a,q))(c:¬(a=r/\p <+: q)):Ld g r p R P b o=some (a,q):=by
 unfold Ld;rw[h];simp only[c,BC]
def ix{g:Bp}{r:Nat}{p:Ao}{R:Nat}{P:Ao}{b o:Nat}{x:Nat×Ao}(h:Ld g r p R P b o=some x):∃y,g b o=some y/\(x.1=R\/x=y):=by
 unfold Ld at h;split at h
 .rename_i c q a;split at h
  .simp only[Ac]at h;subst h;exact⟨_,a,.inl rfl⟩
  simp only[Ac]at h;subst h;exact⟨_,a,.inr rfl⟩
 simp at h
def q_{L:Pl}{e n:Nat}{v:Value}(h:Gc L e 0 n v):v=LJ L n:=by
 obtain⟨d,a,c,A,rfl,b⟩:=h;simp only[LJ,Pl.base,M8];rw[b (.inr rfl)];simp
def o5(h:Hp w0 own0 pl0 g pl roots nx nc fix w){r d:Nat}{u:List (List D)}(K:get roots r=some (.tr d u)){p:Ao}{V:Nat}{y:List (List D)}(F:AH d u p=some (V,y))
  {x:Root} (t:get (BV roots r p) r=some x):∃f,x=.tr d f/\∀q m,AH d f q=some m->NodeC w pl r q m.1 m.2/\MK w g pl r q/\¬p <+: q:=by
 obtain⟨S,s⟩:=h.roots r _ K;by_cases j:p=[]
 .subst j;simp[BV,Ii]at t
 obtain⟨k,⟨i,c⟩,rfl⟩:∃k a,p=k++[a]:=⟨p.dropLast,p.getLast j,(List.dropLast_concat_getLast j).symm⟩;have E:k++[(i,c)]≠[]:=by simp
 have o:BV roots r (k++[(i,c)])=put roots r (.tr d (DQ u k i c .hole)):=by
  unfold BV;split
  .rename_i P;exact H4 P E
  rw[K];simp only;rw[fi]
 rw[o,Bn,Af rfl]at t;simp only[Ac]at t;refine⟨_,t.symm, ?_⟩;rw[Mb]at F;simp only[AO]at F;obtain⟨n,J,b⟩:=F;simp only[AH]at b;split at b
 .rename_i G f H;simp only[AO]at H;obtain⟨e,B,hd⟩:=H;obtain⟨I,Q⟩:=s k n J;intro q m R;rcases cS J B hd .hole q m R with ⟨rfl,rfl⟩|⟨X,G,f,rfl,l,_⟩|⟨U,L,W,M,N,O⟩
  .obtain⟨v,T,A⟩:=I.cells i e c _ B hd;exact⟨I.set B hd .hole rfl (λ_ _ _=>rfl) (λ_ _ _=>rfl) T A.one,Q,Q9⟩
  .cases l
  obtain⟨z,C⟩:=s q U L;rw[N];exact⟨z.sim O,C,M⟩
 simp at b
def So{r b:Nat}{p:Ao}(a:b≠r):get (BV roots r p) b=get roots b:=by
 unfold BV;split
 .rw[Ii,Ae (λe=>a e.symm)]
 split
 .rw[Bn,Ae (λe=>a e.symm)]
 rfl
def Hp.move(h:Hp w0 own0 pl0 g pl roots nx nc fix w){R M:Nat}{F:List (List D)}(hR:get roots R=some (.tr M F)){P:Ao}{nP:Nat×List (List D)}(hP:AH M F P=some nP)
  {i c:Nat} {e:List D} {v:Value} (he:nP.2[i]?= some e) (hd:e[c]?= some (.lf v)) (a9:fix<=R)
  {r:Nat} (G:r≠R) {p:Ao} {sz n sz0:Nat} {es:List (List D)} (hr:get roots r=some (.tr sz0 es)) {l:List (List D)} (hp:AH sz0 es p=some (sz,l)) (hn:n<=l.length)
  (hv:Gc (pl r p) sz 0 n v) {κ:C->C} (hκ:∀x u,CR pl nc x u->CR (IR pl R (P++[(i,c)]) λq=>pl r (p++q)) nc (κ x) u):
  Hp w0 own0 pl0 (Ld g r p R (P++[(i,c)])) (IR pl R (P++[(i,c)]) λq=>pl r (p++q))
   (put ((BV roots r p).map λx=>(x.1,x.2.map κ)) R (.tr M (DQ F P i c (.sl sz (l.take n))))) nx nc fix w:=by
 obtain⟨N,A⟩:=h.roots R _ hR;obtain⟨a6,B⟩:=h.roots r _ hr;obtain⟨hc,hm⟩:=A P nP hP;have f:∀q,¬(P++[(i,c)]) <+: q->IR pl R (P++[(i,c)]) (λq=>pl r (p++q)) R q=pl R q:=λq V=>IS λk=>V k.2;have Q:∀b o q,g b o=some (R,q)->Ld g r p R (P++[(i,c)]) b o=some (R,q):=λb o q hb=>SK hb λk=>G k.1.symm;refine⟨h.fr, ?_, ?_,h.fixle,h.ncle, ?_⟩
 .intro b o x t;obtain⟨y,W,a8⟩:=ix t;obtain⟨a,b',c'⟩:=h.lab b o y W;refine⟨a,b', ?_⟩;rcases a8 with e|rfl
  .rw[e];exact N
  exact c'
 .intro L q J;rw[IS (by rintro ⟨rfl,_⟩;omega)];exact h.fixed L q J
 intro L x t;rw[Bn]at t;split at t
 .rename_i e';subst e';simp only[Ac]at t;subst t;refine⟨N, ?_⟩;intro q m V;rcases cS hP he hd (.sl sz (l.take n)) q m V with ⟨rfl,rfl⟩|⟨X,b0,Y,rfl,z,a4⟩|⟨m0,h1,h2,Z,h4,h5⟩
  .obtain⟨v',a7,a1⟩:=hc.cells i e c _ he hd;refine⟨hc.set he hd _ (f _ Q9) (λj k a2=>f _ (sS a2)) (λj hj G=>rfl) a7 ?_,hm.move (f _ Q9) λb o d=>⟨Q _ _ _ d,id,rfl⟩⟩;rw[jg,AB];refine⟨hv.1, ?_⟩;rw[a1.1,q_ hv,EF,PI hn]
  .simp only[D.sl.injEq]at z;obtain⟨rfl,rfl⟩:=z;have I:∀s,IR pl R (P++[(i,c)]) (λq=>pl r (p++q)) R (P++(i,c)::s)=pl r (p++s):=by
    intro s;have:=sv pl R (P++[(i,c)]) (λq=>pl r (p++q)) s;simpa using this
   have E:NodeC w pl r (p++X) m.1 m.2/\MK w g pl r (p++X):=by
    rcases vY a4 with ⟨rfl,rfl⟩|⟨_,S⟩
    .obtain⟨a,b⟩:=B p _ hp;rw[AB];exact⟨a.take n,b⟩
    exact B (p++X) m (by rw[Mb,hp];exact S)
   refine⟨E.1.move (I _) (λj k _ _ _ _=>?_) λj hj=>rfl,E.2.move (I _) λb o d=>⟨?_,id,rfl⟩⟩
   .have:=I (X++[(j,k)]);simpa using this
   have:=iw (R:=R) (P:=P++[(i,c)]) d;simpa using this
  obtain⟨a0,a3⟩:=A q m0 h1;rw[h4];exact⟨(a0.sim h5).move (f _ Z) (λj k _ _ _ _=>f _ (sT h2 Z)) λj hj=>rfl,a3.move (f _ Z) λb o d=>⟨Q _ _ _ d,id,rfl⟩⟩
 rename_i T;rw[Qu]at t;simp only[BP]at t;obtain⟨y,W,rfl⟩:=t;by_cases K:L=r
 .subst K;obtain⟨Y,rfl,O⟩:=o5 h hr hp W;refine⟨a6, ?_⟩;intro q m V;obtain⟨a,b,a5⟩:=O q m V;have H:∀q,IR pl R (P++[(i,c)]) (λq=>pl L (p++q)) L q=pl L q:=λq=>IS λk=>G k.1;exact⟨a.move (H _) (λ_ _ _ _ _ _=>H _) λ_ _=>rfl,b.move (H _) λb o d=>⟨SK d λk=>a5 k.2,id,rfl⟩⟩
 rw[So K]at W;obtain⟨J,U⟩:=h.roots L y W;refine⟨J,Keep.root ⟨λb o q hb=>⟨SK hb λk=>K k.1,rfl,rfl⟩,λ_ _ _=>rfl,λq=>?_⟩ hκ U⟩;exact IS (by rintro ⟨rfl,_⟩;exact T rfl)
end
end Go.Vs
namespace Go.Vs
variable [Glb]
def Iy(w:World)(b:Nat):Nat->List Value->World
 |_,[]=>w
 |o,v::a=>Iy (w.setCell ⟨b,o,none⟩ v) b (o+1) a
def cQ(b:Nat){d a:Nat}:∀(c:List Value) (w:World) (o:Nat),¬(d=b/\o<=a/\a<o+c.length)->(Iy w b o c).cell? ⟨d,a,none⟩=w.cell? ⟨d,a,none⟩
 |[],_,_,_=>rfl
 |v::c,w,o,h=>by
  rw[Iy,cQ b c _ _ (by simp only[Aq]at h;omega),IC (by simp only[Aq]at h;omega)]
def kg(b:Nat):∀(a:List Value) (w:World) (o:Nat),(∀j,j<a.length->∃u,w.cell? ⟨b,o+j,none⟩=some u)->∀(j:Nat) (v:Value),a[j]?= some v->(Iy w b o a).cell? ⟨b,o+j,none⟩=some v
 |[],_,_,_,j,v,h=>by simp at h
 |x::a,w,o,c,j,v,h=>by
  rw[Iy];obtain⟨u,d⟩:=c 0 (by simp);cases j with
  |zero=>
   simp at h;subst h;rw[cQ b a _ _ (by omega)];exact World.cell?_setCell_same w _ _ (by simpa using d)
  |succ j=>
   have:=kg b a (w.setCell ⟨b,o,none⟩ x) (o+1) (λk g=>by
    obtain⟨f,e⟩:=c (k+1) (by simp;omega);exact⟨f,by rw[IC (by omega)];rwa[show o+1+k=o+(k+1) by omega]⟩) j v (by simpa using h)
   rwa[show o+1+j=o+(j+1) by omega]at this
def bm{P:Program}(b:Nat):∀(a:List Value) (w:World) (o k:Nat),(∀v∈a,v.oneCell'=true) ->
  (∀j,j<a.length->(∃u,w.cell? ⟨b,o+k+j,none⟩=some u)/\w.frozen? ⟨b,o+k+j,none⟩=false) ->
  (storeCells ⟨b,o,none⟩ a k).run P w=.ok () (Iy w b (o+k) a)
 |[],w,o,k,_,_=>by simp[storeCells,Iy]
 |v::a,w,o,k,f,c=>by
  obtain⟨⟨u,h⟩,g⟩:=c 0 (by simp);simp only[AL]at h g;have l:=bm (P:=P) b a (w.setCell ⟨b,o+k,none⟩ v) o (k+1) (λx i=>f x (by simp[i])) (λj n=>by
   obtain⟨⟨m,e⟩,d⟩:=c (j+1) (by simp;omega);rw[show o+k+(j+1)=o+(k+1)+j by omega]at e d;exact⟨⟨m,by rw[IC (by omega)];exact e⟩,by rw[World.frozen?_setCell];exact d⟩)
  simp only[storeCells,Sem.run_bind,Addr.add_lit];rw[run_store P w _ v _ (f v (by simp)),h];simp only[g,C6,BC,Result.andThen_ok];rw[l];rfl
section
variable {w0:World} {own0:Nat->Nat->Prop} {pl0:Aw} {g:Bp} {pl:Aw} {roots:List (Nat×Root)} {nx nc fix:Nat} {w:World}
def Hp.setSpare(h:Hp w0 own0 pl0 g pl roots nx nc fix w){r E:Nat}{F:List (List D)}(J:get roots r=some (.tr E F)){j:Nat}(P:F.length*E<=j)(G:j<(pl r []).cap*E)(u:Value):
  Hp w0 own0 pl0 g pl roots nx nc fix (w.setCell ⟨(pl r []).b,(pl r []).off+j,none⟩ u):=by
 obtain⟨C,i⟩:=h.roots r _ J;obtain⟨H,I⟩:=i [] _ rfl;have y:=I.lab H G;obtain⟨_,⟨v,N⟩,_⟩:=I j (by rw[H.szp];exact G);have e:=h.lab _ _ _ y;refine⟨h.fr.setCell e.2.1 u, ?_,h.fixed,h.fixle,h.ncle, ?_⟩
 .intro b o x c;rw[World.size_setCell];exact h.lab b o x c
 intro s x c;by_cases p:s=r
 .subst p;rw[J]at c;simp only[Ac]at c;subst c;refine⟨C, ?_⟩;intro q m A;obtain⟨a,f⟩:=i q m A;refine⟨a.move rfl (λ_ _ _ _ _ _=>rfl) λk M=>?_,f.move rfl λb o t=>⟨t,λ⟨z,O⟩=>?_,World.frozen?_setCell ..⟩⟩
  .refine IC ?_;rintro ⟨K,L⟩;by_cases n:q=[]
   .subst n;simp only[AH,Ac]at A;subst A;simp only at M;omega
   have:=f.lab a (j:=k) (by have:=HQ m.1 a.le;omega);rw[<-K,<-L,y]at this;simp only[Ac,A5,H3]at this;exact n this.symm
  by_cases d:(pl s []).b=b/\(pl s []).off+j=o
  .obtain⟨rfl,rfl⟩:=d;exact⟨u,World.cell?_setCell_same w _ u N⟩
  exact⟨z,by rw[IC d];exact O⟩
 obtain⟨B,l⟩:=h.roots s x c;exact⟨B,(rK h y u p).root' (λ_ _ k=>k) l⟩
def Hp.setSpares{r sz:Nat}{es:List (List D)}(c:get roots r=some (.tr sz es)):∀(a:List Value) (w:World) (j:Nat),Hp w0 own0 pl0 g pl roots nx nc fix w->es.length*sz<=j->j+a.length<=(pl r []).cap*sz ->
  Hp w0 own0 pl0 g pl roots nx nc fix (Iy w (pl r []).b ((pl r []).off+j) a)
 |[],_,_,h,_,_=>h
 |v::a,w,j,h,d,e=>by
  rw[Iy];simp only[Aq]at e;exact Hp.setSpares c a _ (j+1) (h.setSpare c d (by omega) v) (by omega) (by omega)
def Hp.congr{a:World}(h:Hp w0 own0 pl0 g pl roots nx nc fix w)(d:Fr w0 own0 a)(j:a.heap.size=w.heap.size)
  (i:∀b o x,g b o=some x->a.cell? ⟨b,o,none⟩=w.cell? ⟨b,o,none⟩/\a.frozen? ⟨b,o,none⟩=w.frozen? ⟨b,o,none⟩) (e:∀b o,G2 w0 own0 b o->a.cell? ⟨b,o,none⟩=w.cell? ⟨b,o,none⟩):
  Hp w0 own0 pl0 g pl roots nx nc fix a:=
 ⟨d,λb o x c=>by rw[j];exact h.lab b o x c,h.fixed,h.fixle,h.ncle,λr x c=>⟨(h.roots r x c).1,Keep.root' (nx:=nc) ⟨λb o q f=>⟨f,i b o _ f⟩,e,λ_=>rfl⟩ (λ_ _ k=>k) (h.roots r x c).2⟩⟩
def Hp.fresh(h:Hp w0 own0 pl0 g pl roots nx nc fix w)(b:Array Value)(t:TypeId)(d e:Nat)(l:b.size=d*e):
  Hp w0 own0 pl0 (Nt g w.heap.size nx λo=>if o<d*e then some [] else none) (FY pl nx λ_=>⟨false,w.heap.size,0,d,e,none⟩) ((nx,.tr e [])::roots) (nx+1) nc fix (w.alloc (.cells b t)):=by
 refine h.new _ _ _ _ ?_;intro p n k;cases p with
 |nil=>
  simp only[AH,Ac]at k;subst k;refine⟨⟨by rw[CU],by simp,by rw[CU];simp,by simp,by simp⟩, ?_⟩;intro j f;rw[CU]at f ⊢;simp only at f ⊢;refine⟨by simp[Nt,f], ?_,by simp⟩;have:0+j<b.size:=by omega
  exact⟨b[0+j],by simp[this]⟩
 |cons a p=>obtain⟨i,c⟩:=a;simp[AH]at k
def Hp.rename(h:Hp w0 own0 pl0 g pl roots nx nc fix w){r z:Nat}{t:List (List D)}(u:get roots r=some (.tr z t)):
  Hp w0 own0 pl0 (Ld g r [] nx []) (FY pl nx (pl r)) ((nx,.tr z t)::BR roots r) (nx+1) nc fix w:=by
 obtain⟨F,n⟩:=h.roots r _ u;refine⟨h.fr, ?_, ?_,by have:=h.fixle;omega,by have:=h.ncle;omega, ?_⟩
 .intro b o x c;obtain⟨y,G,s⟩:=ix c;obtain⟨a,A,H⟩:=h.lab b o y G;refine⟨a,A, ?_⟩;rcases s with e|rfl
  .rw[e];omega
  omega
 .intro j q d;rw[D6 pl nx _ j q (by have:=h.fixle;omega)];exact h.fixed j q d
 intro j x c;simp only[get]at c;split at c
 .rename_i B;subst B;simp only[Ac]at c;subst c;refine⟨by omega, ?_⟩;intro q m E;obtain⟨a,b⟩:=n q m E;exact⟨a.move (CU ..) (λ_ _ _ _ _ _=>CU ..) λ_ _=>rfl,b.move (CU ..) λb o l=>⟨by have:=iw (p:=[]) (R:=nx) (P:=[]) (q:=q) l;simpa using this,id,rfl⟩⟩
 rename_i C;rw[Ii]at c;split at c
 .simp at c
 rename_i f;obtain⟨d,i⟩:=h.roots j x c;refine⟨by omega,Keep.root' ⟨λb o q l=>⟨SK l λk=>f k.1.symm,rfl,rfl⟩,λ_ _ _=>rfl,λq=>D6 pl nx _ j q d⟩ (λx v k=>k.agree λr p u=>D6 pl nx _ r p (by have:=h.ncle;omega)) i⟩
def Q4(g:Bp)(B nx r:Nat):Bp:=λb o=>
 if b=B then some (nx,[]) else
 match g b o with
 |some (a,q)=>if a=r/\q≠[] then some (nx,q) else some (a,q)
 |none=>none
def Hp.grow(h:Hp w0 own0 pl0 g pl roots nx nc fix w){r E:Nat}{L:List (List D)}(X:get roots r=some (.tr E L))(n:Array Value)(t:TypeId)(u:Nat)(hs:n.size=u*E)(F:L.length<=u)
  (N:∀j v,j<L.length*E->w.cell? ⟨(pl r []).b,(pl r []).off+j,none⟩=some v->n[j]?= some v):
  Hp w0 own0 pl0 (Q4 g w.heap.size nx r) (FY pl nx λq=>if q=[] then ⟨false,w.heap.size,0,u,E,none⟩ else pl r q) ((nx,.tr E L)::BR roots r) (nx+1) nc fix (w.alloc (.cells n t)):=by
 obtain⟨a1,I⟩:=h.roots r _ X;obtain⟨M,hm⟩:=I [] _ rfl;have U:=h.fr.size;have P:∀b o A q,g b o=some (A,q)->¬(A=r/\q≠[])->Q4 g w.heap.size nx r b o=some (A,q):=by
  intro b o A q f R;unfold Q4;rw[Ae (h.lab_ne f),f];simp only[R,BC]
 have G:∀b o q,g b o=some (r,q)->q≠[]->Q4 g w.heap.size nx r b o=some (nx,q):=by
  intro b o q f R;unfold Q4;rw[Ae (h.lab_ne f),f];simp[R]
 have y:∀b o x,g b o=some x->(w.alloc (.cells n t)).cell? ⟨b,o,none⟩=w.cell? ⟨b,o,none⟩/\(w.alloc (.cells n t)).frozen? ⟨b,o,none⟩=w.frozen? ⟨b,o,none⟩:=λb o x f=>
  ⟨World.cell?_alloc_old w _ _ (by simpa using h.lab_ne f),World.frozen?_alloc_old w _ _ (by simpa using h.lab_ne f)⟩
 refine⟨h.fr.alloc _, ?_, ?_,by have:=h.fixle;omega,by have:=h.ncle;omega, ?_⟩
 .intro b o x l;unfold Q4 at l;split at l
  .rename_i f;subst f;simp only[Ac]at l;subst l;exact⟨by simp,.inl U,by simp⟩
  split at l
  .rename_i A q f;obtain⟨a,V,Y⟩:=h.lab b o _ f;simp only at Y;split at l
   .simp only[Ac]at l;subst l;exact⟨by simp;omega,V,by simp⟩
   simp only[Ac]at l;subst l;exact⟨by simp;omega,V,by simp only;omega⟩
  simp at l
 .intro A q C;rw[D6 pl nx _ A q (by have:=h.fixle;omega)];exact h.fixed A q C
 intro A x l;simp only[get]at l;split at l
 .rename_i Z;subst Z;simp only[Ac]at l;subst l;refine⟨by omega, ?_⟩;intro q m S;by_cases B:q=[]
  .subst B;simp only[AH,Ac]at S;subst S;have s:=CU pl nx (λq=>if q=[] then ⟨false,w.heap.size,0,u,E,none⟩ else pl r q) [];simp only[BF]at s;refine⟨⟨by rw[s],by rw[s];exact F,by rw[s];simp,M.szs, ?_⟩, ?_⟩
   .intro i e c d W hd;obtain⟨v,hv,O⟩:=M.cells i e c d W hd;have f:=M.bound W hd;refine⟨v, ?_, ?_⟩
    .rw[s];simp only[A7];rw[World.cell?_alloc_new];exact N _ v f.2.2.2 hv
    rw[CU];simp only[A0,Yi,BC];exact O
   intro j Q;rw[s]at Q ⊢;simp only at Q ⊢;refine⟨by simp[Q4], ?_,by simp⟩;have:0+j<n.size:=by omega
   exact⟨n[0+j],by simp[this]⟩
  obtain⟨a,b⟩:=I q m S;have K:FY pl nx (λq=>if q=[] then ⟨false,w.heap.size,0,u,E,none⟩ else pl r q) nx q=pl r q:=by rw[CU,Ae B]
  refine⟨a.move K (λj k _ _ _ _=>by rw[CU,Ae (by simp)]) λj Q=>?_,b.move K λb o f=>⟨G b o q f B,λ⟨z,hz⟩=>⟨z,by rw[(y _ _ _ f).1];exact hz⟩,(y _ _ _ f).2⟩⟩;exact (y _ _ _ (b.lab a (by have:=HQ m.1 a.le;omega))).1
 rename_i a0;rw[Ii]at l;split at l
 .simp at l
 rename_i H;obtain⟨C,J⟩:=h.roots A x l;refine⟨by omega,Keep.root' ⟨λb o q f=>⟨P _ _ _ _ f λk=>H k.1.symm,(y _ _ _ f).1,(y _ _ _ f).2⟩,λb o T=>?_,λq=>D6 pl nx _ A q C⟩ (λx v k=>k.agree λr p X=>D6 pl nx _ r p (by have:=h.ncle;omega)) J⟩;exact World.cell?_alloc_old w _ _ (by simp;have:=T.1;omega)
end
end Go.Vs
namespace Go.Vs
variable [Glb]
section
variable {w0:World} {own0:Nat->Nat->Prop} {pl0:Aw} {g:Bp} {pl:Aw} {roots:List (Nat×Root)} {nx nc fix:Nat} {w:World}
def Hp.detach(h:Hp w0 own0 pl0 g pl roots nx nc fix w){r:Nat}{p:Ao}{L n E:Nat}{K:List (List D)}(I:get roots r=some (.tr E K)){u:List (List D)}(G:AH E K p=some (L,u)):
  Hp w0 own0 pl0 (Ld g r p nx []) (FY pl nx λq=>pl r (p++q)) ((nx,.tr L (u.take n))::BV roots r p) (nx+1) nc fix w:=by
 obtain⟨s,d⟩:=h.roots r _ I;refine⟨h.fr, ?_, ?_,by have:=h.fixle;omega,by have:=h.ncle;omega, ?_⟩
 .intro b o x c;obtain⟨y,S,J⟩:=ix c;obtain⟨a,M,T⟩:=h.lab b o y S;refine⟨a,M, ?_⟩;rcases J with e|rfl
  .rw[e];omega
  omega
 .intro C q l;rw[D6 pl nx _ C q (by have:=h.fixle;omega)];exact h.fixed C q l
 intro C x c;simp only[get]at c;split at c
 .rename_i N;subst N;simp only[Ac]at c;subst c;refine⟨by omega, ?_⟩;intro q m H;have f:NodeC w pl r (p++q) m.1 m.2/\MK w g pl r (p++q):=by
   rcases vY H with ⟨rfl,rfl⟩|⟨_,A⟩
   .obtain⟨a,b⟩:=d p _ G;rw[AB];exact⟨a.take n,b⟩
   exact d (p++q) m (by rw[Mb,G];exact A)
  refine⟨f.1.move (CU ..) (λj k _ _ _ _=>?_) λj U=>rfl,f.2.move (CU ..) λb o i=>⟨?_,id,rfl⟩⟩
  .rw[CU,EG]
  have:=iw (R:=nx) (P:=[]) i;simpa using this
 by_cases t:C=r
 .subst t;obtain⟨O,rfl,z⟩:=o5 h I G c;refine⟨by omega, ?_⟩;intro q m H;obtain⟨a,b,F⟩:=z q m H;exact⟨a.move (D6 _ _ _ _ _ s) (λ_ _ _ _ _ _=>D6 _ _ _ _ _ s) λ_ _=>rfl,b.move (D6 _ _ _ _ _ s) λb o i=>⟨SK i λk=>F k.2,id,rfl⟩⟩
 rw[So t]at c;obtain⟨l,B⟩:=h.roots C x c;exact⟨by omega,Keep.root' ⟨λb o q Q=>⟨SK Q λk=>t k.1,rfl,rfl⟩,λ_ _ _=>rfl,λq=>D6 _ _ _ _ _ l⟩ (λx v k=>k.agree λr p I=>D6 pl nx _ r p (by have:=h.ncle;omega)) B⟩
def Hp.trim(h:Hp w0 own0 pl0 g pl roots nx nc fix w){n:Nat}(m:nc<=n)(l:fix<=n)(p:∀r x,get roots r=some x->r<n):
  Hp w0 own0 pl0 (λb o=>(g b o).bind λx=>if x.1<n then some x else none) pl roots n nc fix w:=by
 refine⟨h.fr, ?_,h.fixed,l,m, ?_⟩
 .intro b o x c;simp only[AO]at c;obtain⟨y,t,c⟩:=c;split at c
  .rename_i f;simp only[Ac]at c;subst c;obtain⟨a,i,_⟩:=h.lab b o y t;exact⟨a,i,f⟩
  simp at c
 intro r x c;obtain⟨s,d⟩:=h.roots r x c;have e:=p r x c;refine⟨e,Keep.root' ⟨λb o q j=>⟨?_,rfl,rfl⟩,λ_ _ _=>rfl,λ_=>rfl⟩ (λ_ _ k=>k) d⟩;simp[j,e]
def OH:D->D
 |.lf v=>.lf v
 |_=>.hole
def LL(a m:Nat)(l:List (List D)):List (List D):=l.take a++(((l.drop a).take m).map (·.map OH)++l.drop (a+m))
def aS{a m:Nat}{l:List (List D)}(f:a+m<=l.length)(i:Nat):
  (LL a m l)[i]?= if a<=i/\i<a+m then (l[i]?).map (·.map OH) else l[i]?:=by
 unfold LL;by_cases d:i<a
 .rw[E3 (by simp;omega),EM,Af d,Ae (by omega)]
 rw[Dh (by simp;omega)];have b:(l.take a).length=a:=by simp;omega
 rw[b];by_cases e:i<a+m
 .rw[E3 (by simp;omega),Af ⟨by omega,e⟩];simp only[CQ,EM,F2];rw[Af (by omega),show a+(i-a)=i by omega]
 rw[Dh (by simp;omega),Ae (by omega)];have c:(((l.drop a).take m).map (·.map OH)).length=m:=by simp;omega
 rw[c,F2];congr 1;omega
def qe{a m:Nat}{l:List (List D)}(b:a+m<=l.length):(LL a m l).length=l.length:=by simp[LL];omega
def Ns(g:Bp)(j:Nat)(e:Ao)(d m R f:Nat):Bp:=λb o=>
 match g b o with
 |some (a,q)=>if a=j/\e <+: q then
   match q.drop e.length with
   |(i,c)::h=>if d<=i/\i<d+m then some (R,(f+(i-d),c)::h) else some (a,q)
   |[]=>some (a,q)
  else some (a,q)
 |none=>none
def IT(pl:Aw)(f:Nat)(d:Ao)(b R a:Nat):Aw:=λr q=>
 if r=R then match q with
  |(i,c)::e=>if a<=i then pl f (d++(b+(i-a),c)::e) else pl r q
  |[]=>pl r q
 else pl r q
def Zjk{g:Bp}{e:Nat}{d:Ao}{a m R k0:Nat}{b o i c:Nat}{q:Ao}(h:g b o=some (e,d++(a+i,c)::q))(f:i<m):Ns g e d a m R k0 b o=some (R,(k0+i,c)::q):=by
 unfold Ns;rw[h];simp only[H3,U4,BF,U5];rw[Af ⟨by omega,by omega⟩];congr 4;omega
def iu{g:Bp}{c:Nat}{i:Ao}{f m R e:Nat}{b o a:Nat}{q:Ao}(h:g b o=some (a,q))(d:a≠c):Ns g c i f m R e b o=some (a,q):=by
 unfold Ns;rw[h];simp only[d,false_and,BC]
def iv{g:Bp}{f:Nat}{j:Ao}{e m R p:Nat}{b o:Nat}{q:Ao}(h:g b o=some (f,q))(n:∀i c r,e<=i->i<e+m->q≠j++(i,c)::r):Ns g f j e m R p b o=some (f,q):=by
 unfold Ns;rw[h];simp only[H3];split
 .rename_i d;obtain⟨s,rfl⟩:=d;rw[U5];cases s with
  |nil=>rfl
  |cons a s=>
   obtain⟨i,c⟩:=a;simp only;rw[Ae];rintro ⟨k,l⟩;exact n i c s k l rfl
 rfl
def Zjl{g:Bp}{f:Nat}{e:Ao}{d m R c:Nat}{b o:Nat}{x:Nat×Ao}(h:Ns g f e d m R c b o=some x):∃y,g b o=some y/\(x.1=R\/x=y):=by
 unfold Ns at h;split at h
 .rename_i i q a;refine⟨_,a, ?_⟩;split at h
  .split at h
   .split at h
    .simp only[Ac]at h;subst h;exact .inl rfl
    simp only[Ac]at h;exact .inr h.symm
   simp only[Ac]at h;exact .inr h.symm
  simp only[Ac]at h;exact .inr h.symm
 simp at h
def Hp.extendMove(h:Hp w0 own0 pl0 g pl roots nx nc fix w){R sz:Nat}{es:List (List D)}(hR:get roots R=some (.tr sz es))(a9:fix<=R)(b1:nc<=R)
  {ry:Nat} (V:ry≠R) {py:Ao} {sz0:Nat} {es0:List (List D)} (a5:get roots ry=some (.tr sz0 es0)) {l:List (List D)} (Q:AH sz0 es0 py=some (sz,l)) {C m:Nat} (L:C+m<=l.length)
  (b0:es.length+m<=(pl R []).cap)
  (hN:∀(i c:Nat) (v:Value),i<m->c<sz->w.cell? ⟨(pl ry py).b,(pl ry py).off+((C+i)*sz+c),none⟩=some v->w.cell? ⟨(pl R []).b,(pl R []).off+((es.length+i)*sz+c),none⟩=some v):
  Hp w0 own0 pl0 (Ns g ry py C m R es.length) (IT pl ry py C R es.length)
   (put (put roots ry (.tr sz0 (EL es0 py (LL C m)))) R (.tr sz (es++(l.drop C).take m))) nx nc fix w:=by
 obtain⟨Y,S⟩:=h.roots R _ hR;obtain⟨a2,H⟩:=h.roots ry _ a5;obtain⟨hc,hm⟩:=S [] _ rfl;obtain⟨B,a4⟩:=H py _ Q;have I:∀i c M,i<es.length->IT pl ry py C R es.length R ((i,c)::M)=pl R ((i,c)::M):=by
  intro i c M G;unfold IT;simp[show ¬es.length<=i by omega]
 have z:IT pl ry py C R es.length R []=pl R []:=by unfold IT;simp
 have N:∀i c M,IT pl ry py C R es.length R ((es.length+i,c)::M)=pl ry (py++(C+i,c)::M):=by
  intro i c M;unfold IT;simp
 have J:∀r q,r≠R->IT pl ry py C R es.length r q=pl r q:=by
  intro r q hr;unfold IT;simp[hr]
 refine⟨h.fr, ?_, ?_,h.fixle,h.ncle, ?_⟩
 .intro b o x F;obtain⟨y,hy,a6⟩:=Zjl F;obtain⟨a,b',c'⟩:=h.lab b o y hy;refine⟨a,b', ?_⟩;rcases a6 with e|rfl
  .rw[e];exact Y
  exact c'
 .intro r' q W;rw[J _ _ (by omega)];exact h.fixed r' q W
 intro r' x F;rw[Bn]at F;split at F
 .rename_i e';subst e';simp only[Ac]at F;subst F;refine⟨Y, ?_⟩;intro q n O;cases q with
  |nil=>
   simp only[AH,Ac]at O;subst O;refine⟨⟨by rw[z];exact hc.szp,by rw[z];simp;omega,by rw[z];exact hc.nil, ?_, ?_⟩,hm.move z λb o A=>⟨iu A (λe=>V e.symm),id,rfl⟩⟩
   .intro e u;simp only[C7]at u;rcases u with u|u
    .exact hc.szs e u
    exact B.szs e (Gm (G4 u))
   intro i e c d u hd;rw[z];by_cases G:i<es.length
   .rw[E3 G]at u;obtain⟨v,hv,K⟩:=hc.cells i e c d u hd;exact⟨v,hv,by rw[A0,I i c [] G];exact K⟩
   rw[Dh (by omega)]at u;have U:=getElem?_lt u;simp only[EF,Di]at U;have P:=LH rfl _ _ u;obtain⟨v,hv,K⟩:=B.cells _ e c d P hd;have A:=B.bound P hd;have:=hN (i-es.length) c v (by omega) A.2.1 hv;rw[show es.length+(i-es.length)=i by omega]at this;refine⟨v,this, ?_⟩;have X:=N (i-es.length) c [];rw[show es.length+(i-es.length)=i by omega]at X;rw[A0,X];exact K
  |cons a q=>
   obtain⟨i,c⟩:=a;unfold AH at O;by_cases G:i<es.length
   .rw[E3 G]at O;obtain⟨a,b⟩:=S ((i,c)::q) n (by unfold AH;exact O);exact⟨a.move (I i c q G) (λj k _ _ _ _=>I i c _ G) λ_ _=>rfl,b.move (I i c q G) λb o A=>⟨iu A (λe=>V e.symm),id,rfl⟩⟩
   rw[Dh (by omega)]at O;split at O
   .rename_i a8 a3 A;simp only[AO]at A;obtain⟨e,u,hd⟩:=A;have U:=getElem?_lt u;simp only[EF,Di]at U;have P:=LH rfl _ _ u;obtain⟨a,b⟩:=H (py++(C+(i-es.length),c)::q) n (by
     rw[Mb,Q];simp only[DF,AH,P,hd];exact O)
    have X:∀s,IT pl ry py C R es.length R ((i,c)::s)=pl ry (py++(C+(i-es.length),c)::s):=by
     intro s;have:=N (i-es.length) c s
     rwa[show es.length+(i-es.length)=i by omega]at this
    refine⟨a.move (X q) (λj k _ _ _ _=>?_) λ_ _=>rfl,b.move (X q) λb o A=>⟨?_,id,rfl⟩⟩
    .have:=X (q++[(j,k)]);simpa using this
    have:=Zjk (R:=R) (k0:=es.length) A (show i-es.length<m by omega)
    rwa[show es.length+(i-es.length)=i by omega]at this
   simp at O
 rename_i Z;rw[Bn]at F;split at F
 .rename_i e';subst e';simp only[Ac]at F;subst F;refine⟨a2, ?_⟩;intro q n O;have t:∀q,IT pl ry py C R es.length ry q=pl ry q:=λq=>J _ _ V;rcases dF (f:=LL C m) Q (qe L) q n O with ⟨M,rfl,E⟩|⟨m0,h1,h2,h3,h4⟩
  .cases M with
   |nil=>
    simp only[AH,Ac]at E;subst E;rw[AB];refine⟨⟨by rw[t];exact B.szp,by rw[t,qe L];exact B.le,by rw[t];exact B.nil, ?_, ?_⟩,a4.move (t _) λb o A=>⟨iv A λi c M _ _ e=>?_,id,rfl⟩⟩
    .intro e u;obtain⟨i,G⟩:=Kd u;rw[aS L]at G;split at G
     .simp only[BP]at G;obtain⟨x,F,rfl⟩:=G;simpa using B.szs x (CP F)
     exact B.szs e (CP G)
    .intro i e c d u hd;rw[t,t];rw[aS L]at u;split at u
     .simp only[BP]at u;obtain⟨x,F,rfl⟩:=u;simp only[CQ,BP]at hd;obtain⟨y,hy,rfl⟩:=hd;obtain⟨v,hv,K⟩:=B.cells i x c y F hy;refine⟨v,hv, ?_⟩;cases y with
      |lf x=>exact K
      |_=>exact K.one
     exact B.cells i e c d u hd
    have:=DU List.length e;simp at this
   |cons a M=>
    obtain⟨i,c⟩:=a;unfold AH at E;by_cases T:C<=i/\i<C+m
    .exfalso;rw[aS L,Af T]at E;split at E
     .rename_i a8 a3 A;simp only[AO,BP]at A;obtain⟨_,⟨e,u,rfl⟩,hd⟩:=A;simp only[CQ,BP]at hd;obtain⟨y,_,hd⟩:=hd;cases y<;>cases hd
     simp at E
    rw[aS L,Ae T]at E;obtain⟨a,b⟩:=H (py++(i,c)::M) n (by rw[Mb,Q];unfold AH;exact E);refine⟨a.move (t _) (λ_ _ _ _ _ _=>t _) λ_ _=>rfl,b.move (t _) λb o A=>⟨iv A λj c' a7 h1 h2 e=>?_,id,rfl⟩⟩;rw[List.append_cancel_left_eq,List.cons.injEq,A5]at e;obtain⟨⟨rfl,_⟩,_⟩:=e;exact T ⟨h1,h2⟩
  obtain⟨a,b⟩:=H q m0 h1;rw[h3];refine⟨(a.sim h4).move (t _) (λ_ _ _ _ _ _=>t _) λ_ _=>rfl,b.move (t _) λb o A=>⟨iv A λj c' a7 _ _ e=>?_,id,rfl⟩⟩;rw[e]at h2;exact h2 (U4 _ _)
 rename_i a0;obtain⟨W,a1⟩:=h.roots r' x F;refine⟨W,Keep.root' ⟨λb o q A=>⟨iu A (λe=>a0 e.symm),rfl,rfl⟩,λ_ _ _=>rfl,λq=>J _ _ (λe=>Z e.symm)⟩ (λx v k=>k.agree λr p hr=>J _ _ (by omega)) a1⟩
end
end Go.Vs
namespace Go.Vs
variable [Glb]
def ER(r:Nat)(a:Ao):C->C
 |.rf b q e d n=>if b=r/\a <+: q then .un else .rf b q e d n
 |.pe b q i c=>if b=r/\a <+: q then .un else .pe b q i c
 |x=>x
def BE:List (Nat×Ao)->C->C
 |[],x=>x
 |k::a,x=>BE a (ER k.1 k.2 x)
def A.map(k:C->C):A->A
 |.c x=>.c (k x)
 |.ag a=>.ag (a.map k)
def V.map(k:C->C):V->V
 |.un=>.un
 |.a x=>.a (x.map k)
 |.tp d=>.tp (d.map (A.map k))
 |.fn f b=>.fn f (b.map (A.map k))
 |.sb r n=>match k (.pb r 0) with
  |.pb c 0=>.sb c n
  |_=>.un
def Nr(r:Nat)(b:Ao)(a:List (Nat×Root)):List (Nat×Root):=a.map λx=>(x.1,x.2.map (ER r b))
def Bz(b:List (Nat×Ao))(a:List (Nat×V)):List (Nat×V):=
 match b with
 |[]=>a
 |k::b=>Bz b (a.map λx=>(x.1,x.2.map (ER k.1 k.2)))
def DZ(a:List (Nat×Root)):C->Option (D×List (Nat×Root))
 |.lf v=>some (.lf v,a)
 |.nl c=>some (.sl c [],a)
 |.rf r p c 0 n=>
  match get a r with
  |some (.tr e f)=>match AH e f p with
   |some (d,b)=>if d=c/\n<=b.length then some (.sl c (b.take n),BV a r p) else none
   |none=>none
  |_=>none
 |_=>none
def Dd:List (Nat×Root)->List C->Option (List D×List (Nat×Root))
 |a,[]=>some ([],a)
 |a,c::f=>
  match DZ a c with
  |some (d,b)=>match Dd b f with
   |some (g,e)=>some (d::g,e)
   |none=>none
  |none=>none
def Nf(a:Nat)(b:List (List D))(p:Ao)(i c:Nat):Bool:=
 match (AH a b p).bind (·.2[i]?) with
 |some e=>decide (c<e.length)
 |none=>false
def Iz(f r:Nat)(p:Ao)(i:Nat):List C->List (Nat×Root)->Nat->List (Nat×Ao)->Option (List (Nat×Root)×List (Nat×Ao))
 |[],a,_,g=>some (a,g)
 |y::j,a,c,g=>
  match BE g y with
  |.lf u=>match get a r with
   |some (.tr e h)=>Iz f r p i j (put a r (.tr e (DQ h p i c (.lf u)))) (c+1) g
   |_=>none
  |y=>match DZ a y with
   |some (d,b)=>match get b r with
    |some (.tr e h)=>if f<=r/\Nf e h p i (c+j.length)=true then Iz f r p i j (put (Nr r (p++[(i,c)]) b) r (.tr e (DQ h p i c d))) (c+1) (g++[(r,p++[(i,c)])]) else none
    |_=>none
   |none=>none
def EO{α:Type}(a:Nat):Nat->List α->List (List α)
 |0,_=>[]
 |n+1,l=>l.take a::EO a n (l.drop a)
def Pw:C->D
 |.lf v=>.lf v
 |.nl a=>.sl a []
 |_=>.hole
def dL:C->D
 |.lf v=>.lf v
 |_=>.hole
def QH:C->Bool
 |.lf _=>true
 |.nl _=>true
 |_=>false
def AQ{α:Type}(n:Nat)(l:List α):List α:=
 match n with
 |0=>[]
 |n+1=>l++AQ n l
def VP:D->Bool
 |.lf _=>true
 |_=>false
def UY(E:List (List D)):Bool:=E.all (·.all VP)
def Jz(s:ByteArray):List (List D):=s.data.toList.map λb=>[.lf (.int .u8 b.toNat)]
def Oo(b:List (Nat×Root)):V->Option (Nat×List (List D)×Option Nat)
 |.a (.c (.nl d))=>some (d,[],none)
 |.a (.c (.rf r [] d 0 n))=>match get b r with
  |some (.tr e f)=>if e=d/\n=f.length then some (d,f,some r) else none
  |_=>none
 |_=>none
def Fh(a:List (Nat×Root)):Option Nat->List (Nat×Root)
 |none=>a
 |some r=>BR a r
def wr(S:St)(K:V->List (Nat×Ao)->List (Nat×Root)->Nat->Prop):W->Prop
 |.alloc zero=>K (.a (.c (.pb S.next 0))) [] ((S.next,.bx zero)::S.roots) (S.next+1)
 |.box x=>∃j,Ov (S.opd x)=some j/\K (.a (.c (.pb S.next 0))) [] ((S.next,.bx j)::S.roots) (S.next+1)
 |.store n x v=>match S.opd x with
  |.a (.c (.pb r c))=>∃j,Ov (S.opd v)=some j/\j.length=n/\∃h,get S.roots r=some (.bx h)/\c+n<=h.length/\K .un [] (put S.roots r (.bx (h.take c++(j++h.drop (c+n))))) S.next
  |.a (.c (.pe r p i c))=>∃j,Ov (S.opd v)=some j/\j.length=n/\∃e,((S.node r p).bind (·.2[i]?))=some e/\c+n<=e.length/\(∃k u,get S.roots r=some (.tr k u))/\∃q,Iz S.fix r p i j S.roots c []=some q/\K .un q.2 q.1 S.next
  |_=>False
 |.mks d f zero l c=>match S.opd l,S.opd c with
  |.a (.c (.lf (.int _ z))),.a (.c (.lf (.int _ D)))=>D=z/\0<=z/\z*f<=140737488355328/\z<=9223372036854775807/\zero.all QH=true/\K (.a (.c (.rf S.next [] d 0 z.toNat))) [] ((S.next,.tr d (List.replicate z.toNat (zero.map Pw)))::S.roots) (S.next+1)
  |_,_=>False
 |.lit d len zero g=>(∃h,Ie S (AQ len zero) (g.map λx=>(x.1*d,d,x.2))=some h/\∃B,Dd S.roots h=some B/\K (.a (.c (.rf S.next [] d 0 len))) [] ((S.next,.tr d (EO d len B.1))::B.2) (S.next+1)) \/
   (∃h,Ie S (AQ len zero) (g.map λx=>(x.1*d,d,x.2))=some h/\K (.sb S.next len) [] ((S.next,.bx h)::S.roots) (S.next+1))
 |.s2b x=>match S.opd x with
  |.a (.c (.lf (.string s)))=>K (.a (.c (.rf S.next [] 1 0 s.size))) [] ((S.next,.tr 1 (Jz s))::S.roots) (S.next+1)
  |_=>False
 |.app d f _ x y=>∃b,Oo S.roots (S.opd x)=some b/\b.1=d/\match S.opd y with
  |.a (.c (.nl _))=>b.2.1.length*f<=140737488355328/\K (.a (.c (.rf S.next [] d 0 b.2.1.length))) [] ((S.next,.tr d b.2.1)::Fh S.roots b.2.2) (S.next+1)
  |.a (.c (.rf A C t o m))=>t=d/\some A≠b.2.2/\(b.2.1.length+m)*f<=140737488355328/\∃l,S.node A C=some (d,l)/\o+m<=l.length /\
    ((UY ((l.drop o).take m)=true/\K (.a (.c (.rf S.next [] d 0 (b.2.1.length+m)))) [] ((S.next,.tr d (b.2.1++(l.drop o).take m))::Fh S.roots b.2.2) (S.next+1)) \/
     (∃k w,get S.roots A=some (.tr k w)/\K (.a (.c (.rf S.next [] d 0 (b.2.1.length+m)))) [] ((S.next,.tr d (b.2.1++(l.drop o).take m))::put (Fh S.roots b.2.2) A (.tr k (EL w C (LL o m)))) (S.next+1)))
  |_=>False
 |.aps _ x y=>∃b,Oo S.roots (S.opd x)=some b/\b.1=1/\match S.opd y with
  |.a (.c (.lf (.string s)))=>b.2.1.length+s.size<=140737488355328/\K (.a (.c (.rf S.next [] 1 0 (b.2.1.length+s.size)))) [] ((S.next,.tr 1 (b.2.1++Jz s))::Fh S.roots b.2.2) (S.next+1)
  |_=>False
 |.clr d zero x=>match S.opd x with
  |.a (.c (.rf r [] t o n))=>t=d/\∃u,get S.roots r=some (.tr d u)/\o+n=u.length/\K .un [] (put S.roots r (.tr d (u.take o++List.replicate n (zero.map dL)))) S.next
  |.a (.c (.nl _))=>K .un [] S.roots S.next
  |_=>False
 |_=>False
end Go.Vs
namespace Go.Vs
variable [Glb]
def c_(N:List (List D))(i c:Nat):Nat:=
 match (N[i]?).bind (·[c]?) with
 |some (.sl s _)=>s
 |_=>0
def GE(pl:Aw)(R:Nat)(N:List (List D))(a:Nat):Aw:=λr q=>
 if r=R then match q with
  |(i,c)::_=>if a<=i then ⟨true,0,0,0,c_ N (i-a) c,none⟩ else pl r q
  |[]=>pl r q
 else pl r q
section
variable {w0:World} {own0:Nat->Nat->Prop} {pl0:Aw} {g:Bp} {pl:Aw} {roots:List (Nat×Root)} {nx nc fix:Nat} {w:World}
def Hp.extendZ(h:Hp w0 own0 pl0 g pl roots nx nc fix w){r sz:Nat}{es:List (List D)}(W:get roots r=some (.tr sz es))(U:fix<=r)(a0:nc<=r)(N:List (List D))(S:∀e∈N,e.length=sz)(P:es.length+N.length<=(pl r []).cap)
  (T:∀(i:Nat) (e:List D) (c:Nat) (d:D),N[i]?= some e->e[c]?= some d->∃v,w.cell? ⟨(pl r []).b,(pl r []).off+((es.length+i)*sz+c),none⟩=some v/\((d=.lf v/\v.oneCell'=true)\/(∃s,d=.sl s []/\v=.slice none 0 0))):
  Hp w0 own0 pl0 g (GE pl r N es.length) (put roots r (.tr sz (es++N))) nx nc fix w:=by
 obtain⟨R,F⟩:=h.roots r _ W;obtain⟨K,hm⟩:=F [] _ rfl;have y:∀i c C,i<es.length->GE pl r N es.length r ((i,c)::C)=pl r ((i,c)::C):=by
  intro i c C u;unfold GE;simp[show ¬es.length<=i by omega]
 have l:GE pl r N es.length r []=pl r []:=by unfold GE;simp
 have H:∀i c C,es.length<=i->GE pl r N es.length r ((i,c)::C)=⟨true,0,0,0,c_ N (i-es.length) c,none⟩:=by
  intro i c C u;unfold GE;simp[u]
 have B:∀A q,A≠r->GE pl r N es.length A q=pl A q:=by
  intro A q t;unfold GE;simp[t]
 refine⟨h.fr,h.lab, ?_,h.fixle,h.ncle, ?_⟩
 .intro A q t;rw[B _ _ (by omega)];exact h.fixed A q t
 intro A x J;rw[Bn]at J;split at J
 .rename_i Y;subst Y;simp only[Ac]at J;subst J;refine⟨R, ?_⟩;intro q m n;cases q with
  |nil=>
   simp only[AH,Ac]at n;subst n;refine⟨⟨by rw[l];exact K.szp,by rw[l];simpa using P,by rw[l];exact K.nil, ?_, ?_⟩,hm.move l λb o z=>⟨z,id,rfl⟩⟩
   .intro e f;simp only[C7]at f;rcases f with f|f
    .exact K.szs e f
    exact S e f
   intro i e c d f hd;rw[l];by_cases u:i<es.length
   .rw[E3 u]at f;obtain⟨v,I,M⟩:=K.cells i e c d f hd;exact⟨v,I,by rw[A0,y i c [] u];exact M⟩
   rw[Dh (by omega)]at f;obtain⟨v,I,O⟩:=T _ e c d f hd;rw[show es.length+(i-es.length)=i by omega]at I;refine⟨v,I, ?_⟩;rw[A0,H i c [] (by omega)];rcases O with ⟨rfl,h1⟩|⟨s,rfl,rfl⟩
   .exact⟨rfl,h1⟩
   refine⟨?_,rfl⟩;simp[c_,f,hd]
  |cons a q=>
   obtain⟨i,c⟩:=a;unfold AH at n;by_cases u:i<es.length
   .rw[E3 u]at n;obtain⟨a,b⟩:=F ((i,c)::q) m (by unfold AH;exact n);exact⟨a.move (y i c q u) (λj k _ _ _ _=>y i c _ u) λ_ _=>rfl,b.move (y i c q u) λb o z=>⟨z,id,rfl⟩⟩
   rw[Dh (by omega)]at n;split at n
   .rename_i a1 Z z;simp only[AO]at z;obtain⟨e,f,hd⟩:=z;obtain⟨v,I,O⟩:=T _ e c _ f hd;rcases O with ⟨E,_⟩|⟨s,X,rfl⟩
    .cases E
    simp only[D.sl.injEq]at X;obtain⟨rfl,rfl⟩:=X;cases q with
    |nil=>
     simp only[AH,Ac]at n;subst n;have L:=H i c [] (by omega);refine⟨⟨by rw[L];simp[c_,f,hd],by rw[L];simp,by rw[L];simp,by simp,by simp⟩, ?_⟩;intro j V;rw[L]at V;simp at V
    |cons a q=>obtain⟨j,k⟩:=a;simp[AH]at n
   simp at n
 rename_i Q;obtain⟨t,G⟩:=h.roots A x J;exact⟨t,Keep.root' ⟨λb o q z=>⟨z,rfl,rfl⟩,λ_ _ _=>rfl,λq=>B _ _ (λe=>Q e.symm)⟩ (λx v k=>k.agree λr p W=>B _ _ (by omega)) G⟩
def Wo{N:List (List D)}{R a:Nat}(h:nc<=R):FO nc pl (GE pl R N a):=λr p b=>by unfold GE;rw[Ae (by omega)]
def Wp{N:List (List D)}{R a r:Nat}:GE pl R N a r []=pl r []:=by unfold GE;split<;>rfl
end
variable {P:Program} {N:Nat} {w0:World} {own0:Nat->Nat->Prop} {pl0:Aw} {g:Bp} {pl:Aw} {S:St} {a:Act} {w:World} {K:V->List (Nat×Ao)->List (Nat×Root)->Nat->Prop}
def MO(P:Program)(w0:World)(own0:Nat->Nat->Prop)(pl0:Aw)(pl:Aw)(S:St)(K:V->List (Nat×Ao)->List (Nat×Root)->Nat->Prop)(s:Sem Value)(w:World):Prop:=
 ∃v f x e b d h c,s.run P w=.ok v f/\VR c d x v/\Hp w0 own0 pl0 h c b d d S.fix f/\(∀z u,CR pl S.next z u->CR c d (BE e z) u)/\K x e b d
def NQ{s:Sem Value}{v:Value}{f:World}{x:C}{e:List (Nat×Ao)}{b:List (Nat×Root)}{d:Nat}{h:Bp}{pl':Aw}(i:K (.a (.c x)) e b d)(l:s.run P w=.ok v f)(m:CR pl' d x v)
  (k:Hp w0 own0 pl0 h pl' b d d S.fix f) (j:∀z u,CR pl S.next z u->CR pl' d (BE e z) u):MO P w0 own0 pl0 pl S K s w:=⟨v,f,.a (.c x),e,b,d,h,pl',l,m,k,j,i⟩
def Zp9(f:Rel N w0 own0 pl0 g pl S a w){e:TypeId}{j:W}(d:E1 P (.alloc e)=some j)(h:wr S K j):
  MO P w0 own0 pl0 pl S K (Instr.alloc e true (.tuple #[])) w:=by
 simp only[E1,Bv,AO,Ac]at d;obtain⟨i,l,z,n,zc,c,rfl⟩:=d;have b:=Ow (pl:=pl) (nx:=S.next) c;have k:=f.hp.newBox zc z.cells.toList e b;refine NQ h (v:=.pointer (some ⟨w.heap.size,0,none⟩)) ?_ Hp.newBox_ptr k.bump λz u m=>(m.agree (D6 _ _ _)).mono (by omega);simp[Instr.alloc,zeroValue,typeInfo,l,n,newVar,newRow]
def Zqb(d:Rel N w0 own0 pl0 g pl S a w){e:TypeId}{x:Operand}{j:W}(f:E1 P (.box e x)=some j)(h:wr S K j):
  MO P w0 own0 pl0 pl S K (Instr.box e (a.eval x)) w:=by
 simp only[E1,BP]at f;obtain⟨y,m,rfl⟩:=f;obtain⟨n,c,i⟩:=h;have b:=Zz (Cc d m) c;have k:=d.hp.newBox n (a.eval x).cells.toList e b;refine NQ i (v:=.pointer (some ⟨w.heap.size,0,none⟩)) ?_ Hp.newBox_ptr k.bump λz u l=>(l.agree (D6 _ _ _)).mono (by omega);simp[Instr.box,newVar,newRow]
def rN{k r:Nat}{pre:Ao}(e:pre≠[]){L:Ao->Pl}{x:C}{u:Value}(h:CR pl k x u):CR (IR pl r pre L) k (ER r pre x) u:=by
 cases x with
 |rf b q f j n=>
  by_cases d:b=r/\pre <+: q
  .rw[show ER r pre (.rf b q f j n)=.un from Af d];exact h.one
  rw[show ER r pre (.rf b q f j n)=.rf b q f j n from Ae d];exact⟨h.1,by rw[IS d];exact h.2⟩
 |pe b q i c=>
  by_cases d:b=r/\pre <+: q
  .rw[show ER r pre (.pe b q i c)=.un from Af d];exact h.one
  rw[show ER r pre (.pe b q i c)=.pe b q i c from Ae d];exact⟨h.1,by rw[IS d];exact h.2⟩
 |pb b c=>
  refine⟨h.1, ?_⟩;rw[IS (by rintro ⟨_,l⟩;exact e (List.prefix_nil.1 l))];exact h.2
 |un=>exact h
 |nl f=>exact h
 |lf v=>exact h
def Zi3(b:List (Nat×Ao))(k:Nat×Ao)(x:C):BE (b++[k]) x=ER k.1 k.2 (BE b x):=by
 induction b generalizing x with
 |nil=>rfl
 |cons a b c=>simp only[A1,BE];exact c _
def Zoe{g:Bp}{pl:Aw}{i:List (Nat×Root)}{l u m:Nat}(h:Hp w0 own0 pl0 g pl i l u m w){r:Nat}{p:Ao}{o A n:Nat}{v:Value}(E:CR pl u (.rf r p o A n) v){d:D}{b:List (Nat×Root)}(f:DZ i (.rf r p o A n)=some (d,b)):
  ∃q C k,d=.sl o q/\Hp w0 own0 pl0 C k ((l,.tr o q)::b) (l+1) u m w/\FO l pl k/\Gc (k l []) o 0 q.length v/\(∀r x,get b r=some x->r<l):=by
 unfold DZ at f;split at f
 .rename_i c;cases c
 .rename_i c;cases c
 .rename_i c;cases c;split at f
  .rename_i I q y;split at f
   .rename_i H s G;split at f
    .rename_i j;obtain⟨rfl,F⟩:=j;simp only[Ac,A5]at f;obtain⟨rfl,rfl⟩:=f;refine⟨s.take n,_,_,rfl,h.detach (n:=n) y G,D6 _ _ _, ?_, ?_⟩
     .rw[CU,AB,EF,PI F];exact E.2
     intro B x z;have t:=(h.roots _ _ y).1;by_cases e:B=r
     .subst e;exact t
     rw[So e]at z;exact (h.roots B x z).1
    simp at f
   simp at f
  simp at f
 simp at f
def vW{g:Bp}{pl:Aw}{f:List (Nat×Root)}{l y o:Nat}(h:Hp w0 own0 pl0 g pl f l y o w){c:C}{v:Value}(t:CR pl y c v){d:D}{b:List (Nat×Root)}(i:DZ f c=some (d,b)):
  (d=.lf v/\v.oneCell'=true/\b=f)\/(∃m,d=.sl m []/\v=.slice none 0 0/\b=f) \/
   (∃m q F k,d=.sl m q/\Hp w0 own0 pl0 F k ((l,.tr m q)::b) (l+1) y o w/\FO l pl k/\Gc (k l []) m 0 q.length v/\(∀r x,get b r=some x->r<l)):=by
 unfold DZ at i;split at i
 .simp only[Ac,A5]at i;obtain⟨rfl,rfl⟩:=i;obtain⟨rfl,G⟩:=t;exact .inl ⟨rfl,G,rfl⟩
 .simp only[Ac,A5]at i;obtain⟨rfl,rfl⟩:=i;exact .inr (.inl ⟨_,rfl,t,rfl⟩)
 .rename_i r p m n;split at i
  .rename_i J q A;split at i
   .rename_i z s I;split at i
    .rename_i j;obtain⟨rfl,H⟩:=j;simp only[Ac,A5]at i;obtain⟨rfl,rfl⟩:=i;refine .inr (.inr ⟨z,s.take n,_,_,rfl,h.detach (n:=n) A I,D6 _ _ _, ?_, ?_⟩)
     .rw[CU,AB,EF,PI H];exact t.2
     intro E x B;have u:=(h.roots r _ A).1;by_cases e:E=r
     .subst e;exact u
     rw[So e]at B;exact (h.roots E x B).1
    simp at i
   simp at i
  simp at i
 simp at i
end Go.Vs
namespace Go.Vs
variable [Glb]
variable {P:Program} {N:Nat} {w0:World} {own0:Nat->Nat->Prop} {pl0:Aw} {g:Bp} {pl:Aw} {S:St} {a:Act} {w:World} {K:V->List (Nat×Ao)->List (Nat×Root)->Nat->Prop}
def um{roots:List (Nat×Root)}{x q l:Nat}{r:Nat}:∀(f:List C) (n:List Value) (i:List C) (c:Nat) (w:World) (roots:List (Nat×Root)),Hp w0 own0 pl0 g pl roots x q l w->get roots r=some (.bx i)->c+f.length<=i.length->Ai (CR pl q) f n ->
  ∃d,Hp w0 own0 pl0 g pl d x q l (Iy w (pl r []).b ((pl r []).off+c) n)/\(∀t,get d t=get (put roots r (.bx (i.take c++(f++i.drop (c+f.length))))) t)
 |[],[],i,c,w,roots,h,p,u,_=>by
  refine⟨roots,h,λt=>?_⟩;rw[Bn];split
  .rename_i e;subst e;simp[p]
  rfl
 |y::f,v::n,i,c,w,roots,h,p,u,k=>by
  simp only[Aq]at u;obtain⟨m,_⟩:=h.setBox p (show c<i.length by omega) k.1;obtain⟨d,o,G⟩:=um (roots:=roots) f n (i.set c y) (c+1) _ _ m (by rw[Bn,Af rfl]) (by simp;omega) k.2;refine⟨d,by rw[Iy];exact o,λt=>?_⟩;rw[G,Bn,Bn,Bn];split
  .congr 2;apply MA;intro j;simp only[mP,EF,U3,EM,Fo,F2,mQ,Aq];have A:min (c+1) i.length=c+1:=by omega
   have B:min c i.length=c:=by omega
   rw[A,B];by_cases m:j<c
   .simp[m,show j<c+1 by omega,show ¬c=j by omega]
   by_cases o:j=c
   .subst o;simp[show j<i.length by omega]
   have z:¬j<c+1:=by omega
   simp only[z,m,BC];have D:j-c-1=j-(c+1):=by omega
   by_cases s:j-(c+1)<f.length
   .simp[s,show j-c<f.length+1 by omega,show ¬(j-c=0) by omega,D]
   simp only[s,show ¬(j-c<f.length+1) by omega,BC];have E:c+1+f.length+(j-(c+1)-f.length)=j:=by omega
   have F:c+(f.length+1)+(j-c-(f.length+1))=j:=by omega
   rw[E,F,Ae (by omega)]
  rfl
 |[],_::_,_,_,_,_,_,_,_,h=>h.elim
 |_::_,[],_,_,_,_,_,_,_,h=>h.elim
def Hp.roots_eq{c b:List (Nat×Root)}{i f d:Nat}(h:Hp w0 own0 pl0 g pl c i f d w)(e:∀t,get b t=get c t):Hp w0 own0 pl0 g pl b i f d w:=
 ⟨h.fr,h.lab,h.fixed,h.fixle,h.ncle,λr x j=>h.roots r x (by rw[<-e];exact j)⟩
def CR.killed{c:Nat}{b:Aw}{d:List (Nat×Ao)}(h:∀z u,CR pl c z u->CR b c (BE d z) u):∀{f:List C}{e:List Value},Ai (CR pl c) f e->Ai (CR b c) (f.map (BE d)) e
 |[],[],_=>trivial
 |_::_,_::_,k=>⟨h _ _ k.1,CR.killed h k.2⟩
 |[],_::_,k=>k.elim
 |_::_,[],k=>k.elim
end Go.Vs
namespace Go.Vs
variable [Glb]
variable {P:Program} {N:Nat} {w0:World} {own0:Nat->Nat->Prop} {pl0:Aw} {g:Bp} {pl:Aw} {S:St} {a:Act} {w:World} {K:V->List (Nat×Ao)->List (Nat×Root)->Nat->Prop}
def sO{f:List (List D)->List (List D)}:∀{p:Ao}{d:Nat}{j:List (List D)}{n:Nat×List (List D)},AH d j p=some n->AH d (EL j p f) p=some (n.1,f n.2)
 |[],d,j,n,h=>by simp only[AH,Ac]at h;subst h;rfl
 |(i,c)::p,d,j,n,h=>by
  simp only[AH]at h;split at h
  .rename_i m l b;simp only[AO]at b;obtain⟨e,k,hd⟩:=b;simp only[EL,k,hd];rw[jY k hd];exact sO h
  simp at h
def bH{b:Nat}{j:List (List D)}{p:Ao}{n:Nat×List (List D)}(h:AH b j p=some n){i:Nat}{e:List D}(k:n.2[i]?= some e)(c:Nat)(d:D):
  ∃f,AH b (DQ j p i c d) p=some f/\f.1=n.1/\f.2[i]?= some (e.set c d):=by
 refine⟨_,sO h,rfl, ?_⟩;have l:=getElem?_lt k;simp only[Gk,k];rw[Fo,Af rfl,Af l]
def wj{f k:List (List D)->List (List D)}:∀{p:Ao}{d:Nat}{j:List (List D)}{n:Nat×List (List D)},AH d j p=some n->EL (EL j p f) p k=EL j p λl=>k (f l)
 |[],d,j,n,h=>rfl
 |(i,c)::p,d,j,n,h=>by
  simp only[AH]at h;split at h
  .rename_i s o b;simp only[AO]at b;obtain⟨e,m,hd⟩:=b;have q:=getElem?_lt m;have r:=getElem?_lt hd;simp only[EL,m,hd];rw[Fo,Af rfl,Af q];simp only;rw[Fo,Af rfl,Af r];simp only;rw[wj h,MB,MB]
  simp at h
def uo{f:Nat}{b:List (List D)}{p:Ao}{n:Nat×List (List D)}(h:AH f b p=some n)(i c:Nat)(d j:D):DQ (DQ b p i c d) p i c j=DQ b p i c j:=by
 unfold DQ;rw[wj h];congr 1;funext l;unfold Gk;cases k:l[i]? with
 |none=>simp[k]
 |some e=>
  have m:=getElem?_lt k;simp only;rw[Fo,Af rfl,Af m];simp only[MB]
def S8(r:Nat)(c:Ao)(b:List (Nat×Root))(t:Nat):get (Nr r c b) t=(get b t).map (Root.map (ER r c)):=Qu _ _ _
def lK{f b:List (Nat×Root)}{c:C}{d:D}(h:DZ f c=some (d,b)){t:Nat}{x:Root}(i:get b t=some x):∃y,get f t=some y:=by
 unfold DZ at h;split at h
 .simp only[Ac,A5]at h;obtain⟨_,rfl⟩:=h;exact⟨x,i⟩
 .simp only[Ac,A5]at h;obtain⟨_,rfl⟩:=h;exact⟨x,i⟩
 .rename_i r p m n;split at h
  .rename_i k l j;split at h
   .split at h
    .simp only[Ac,A5]at h;obtain⟨_,rfl⟩:=h;by_cases e:t=r
     .subst e;exact⟨_,j⟩
     rw[So e]at i;exact⟨x,i⟩
    simp at h
   simp at h
  simp at h
 simp at h
def lF{b7:Aw}{n0 M a0 r:Nat}{p:Ao}{i:Nat}(c4:M<=n0):∀(ys:List C) (vs:List Value) (l:List (Nat×Root)) (c:Nat) (ks:List (Nat×Ao)) (w:World) (g:Bp) (pl:Aw) (H:Nat) (F:List (Nat×Root)×List (Nat×Ao)),
  Hp w0 own0 pl0 g pl l H M a0 w->n0<=H->(∀t x,get l t=some x->t<n0)->(∀z u,CR b7 M z u->CR pl M (BE ks z) u)->Ai (CR b7 M) ys vs ->
  ∀(T:Nat) (es:List (List D)) (n:Nat×List (List D)) (e:List D),get l r=some (.tr T es)->AH T es p=some n->n.2[i]?= some e->c+ys.length<=e.length ->
  Iz a0 r p i ys l c ks=some F ->
  ∃g' Q O,Hp w0 own0 pl0 g' Q F.1 O M a0 (Iy w (pl r p).b ((pl r p).off+(i*(pl r p).sz+c)) vs)/\n0<=O/\(∀t x,get F.1 t=some x->t<n0)/\(∀z u,CR b7 M z u->CR Q M (BE F.2 z) u)
 |[],[],l,c,ks,w,g,pl,H,F,h,b5,B,V,_,T,es,n,e,hr,hp,he,c3,f=>by
  simp only[Iz,Ac]at f;subst f;exact⟨g,pl,H,h,b5,B,V⟩
 |y::ys,v::vs,l,c,ks,w,g,pl,H,F,h,b5,B,V,U,T,es,n,e,hr,hp,he,c3,f=>by
  simp only[Aq]at c3;have hy:=V y v U.1;have c7:=(h.node (r:=r) (p:=p) (n:=n)
   (by unfold EA;rw[hr];exact hp)).2
  have hd:∃d0,e[c]?= some d0:=⟨_,BW (by omega)⟩;obtain⟨d0,hd⟩:=hd;have W:=c7.szp;unfold Iz at f;split at f
  .rename_i u d4;rw[d4]at hy;obtain⟨rfl,h1⟩:=hy;rw[hr]at f;simp only at f;obtain⟨hL,_⟩:=h.setLeaf hr hp he hd h1;obtain⟨n',G,A,c8⟩:=bH hp he c (.lf v);obtain⟨g',Q,O,a1,a2,a3,a4⟩:=lF c4 ys vs _ (c+1) ks _ g pl H F hL b5 (λt x Y=>by
     rw[Bn]at Y;split at Y
     .rename_i e';subst e';exact B _ _ hr
     .exact B t x Y) V U.2 T _ n' _ (by rw[Bn,Af rfl]) G c8 (by simp;omega) f
   refine⟨g',Q,O, ?_,a2,a3,a4⟩;rw[Iy,W];rw[W]at a1;rw[show (pl r p).off+(i*n.1+c)+1=(pl r p).off+(i*n.1+(c+1)) by omega];exact a1
  rename_i c5;split at f
  .rename_i d j m;split at f
   .rename_i b8 b9 J;split at f
    .rename_i b4;obtain⟨a7,o⟩:=b4;unfold Nf at o;split at o
     .rename_i e1 b0;simp only[AA]at o;simp only[AO]at b0;obtain⟨n1,A,I⟩:=b0;obtain⟨d1,c2⟩:∃d1,e1[c]?= some d1:=⟨_,BW (by omega)⟩;have s:∀t x,get j t=some x->t<n0:=by
       intro t x Y;obtain⟨y,hy⟩:=lK m Y;exact B t y hy
      -- the real cell is written with the value,told as a leaf;then it is told what it is
      have d5:∃g2 Z a5,Hp w0 own0 pl0 g2 Z (put (Nr r (p++[(i,c)]) j) r (.tr b8 (DQ b9 p i c d))) a5 M a0 (w.setCell ⟨(pl r p).b,(pl r p).off+(i*(pl r p).sz+c),none⟩ v)/\H<=a5 /\
        (∀z u,CR pl M z u->CR Z M (ER r (p++[(i,c)]) z) u)/\Z r p=pl r p/\(∀t x,get j t=some x->t<n0):=by
       rcases vW h hy m with ⟨rfl,h1,rfl⟩|⟨sz,rfl,rfl,rfl⟩|⟨sz,b3,g1,a6,rfl,h1,c0,b2,d6⟩
       .exfalso;unfold DZ at m;split at m
        .first|exact c5 _ rfl|exact c5 _ ‹_›|simp_all
        .simp at m
        .split at m
         .split at m
          .split at m<;>simp at m
          simp at m
         simp at m
        simp at m
       .rw[hr]at J;simp only[Ac,Root.tr.injEq]at J;obtain⟨rfl,rfl⟩:=J;rw[hp]at A;simp only[Ac]at A;subst A;rw[he]at I;simp only[Ac]at I;subst I;obtain⟨hL,_⟩:=h.setLeaf hr hp he hd (u:=.slice none 0 0) rfl;obtain⟨n',G,a9,E⟩:=bH hp he c (.lf (.slice none 0 0));have hk:=λ(z:C) (u:Value) (k:CR pl M z u)=>rN (r:=r) (pre:=p++[(i,c)]) (by simp) (L:=λ_=>⟨true,0,0,0,sz,none⟩) k;have hz:=hL.setNil (κ:=ER r (p++[(i,c)])) (by rw[Bn,Af rfl]) G E (by simp[getElem?_lt hd]) sz a7 hk;refine⟨_,_,H,hz.roots_eq ?_ |> λz=>by rw[W];exact z,AE _,hk,IS (λk=>Q9 k.2),s⟩;intro t;rw[Bn,Bn,S8,Qu,Bn];split
        .rw[uo hp]
        rfl
       have d8:r<n0:=s r _ J;have d3:r<H:=by omega
       have b1:get ((H,Root.tr sz b3)::j) r=some (.tr b8 b9):=by simp only[get];rw[Ae (by omega)];exact J
       obtain⟨hL,_⟩:=h1.setLeaf b1 A I c2 (u:=v) b2.one;have b6:a6 r p=pl r p:=c0 r p d3;have X:(a6 r p).sz=n1.1:=(h1.node (r:=r) (p:=p) (n:=n1) (by unfold EA;rw[b1];exact A)).2.szp;rw[b6]at X;obtain⟨n',G,a9,E⟩:=bH A I c (.lf v);have hk:=λ(z:C) (u:Value) (k:CR a6 M z u)=>rN (r:=r) (pre:=p++[(i,c)]) (by simp) (L:=λq=>a6 H ([]++q)) k;have hm:=hL.move (κ:=ER r (p++[(i,c)])) (R:=r) (by rw[Bn,Af rfl]) G E (by simp[getElem?_lt c2]) a7 (r:=H) (by omega) (p:=[]) (sz:=sz) (n:=b3.length) (sz0:=sz) (es:=b3)
        (by rw[Bn,Ae (by omega)];simp[get]) rfl (AE _) b2 hk
       refine⟨_,_,H+1,hm.roots_eq ?_ |> λz=>by rw[X,<-b6];exact z,by omega,λz u k=>hk z u (k.agree λr p hr=>c0 r p (by have:=h.ncle;omega)),by rw[IS (λk=>Q9 k.2)];exact b6,s⟩;intro t;rw[Bn,Bn,S8,Qu];split
       .rw[uo A,Jd]
       rename_i c9;congr 1;simp only[BV];rw[Ii,Bn,Ae c9];simp only[get];split
       .rename_i e;subst e;cases hq:get j H with
        |none=>rfl
        |some x=>have:=s _ _ hq;omega
       rfl
      obtain⟨g2,Z,a5,d2,d7,c1,c6,a8⟩:=d5;obtain⟨n',G,a9,E⟩:=bH A I c d;obtain⟨g',Q,O,a1,a2,a3,a4⟩:=lF c4 ys vs _ (c+1) (ks++[(r,p++[(i,c)])]) _ g2 Z a5 F d2 (by omega) (λt x Y=>by
        rw[Bn]at Y;split at Y
        .rename_i e';subst e';exact a8 _ _ J
        .rw[S8]at Y;simp only[BP]at Y;obtain⟨y,hy,_⟩:=Y;exact a8 t y hy) (λz u k=>by rw[Zi3];exact c1 _ _ (V z u k)) U.2 b8 _ n' _ (by rw[Bn,Af rfl]) G E (by simp;omega) f
      refine⟨g',Q,O, ?_,a2,a3,a4⟩;rw[Iy];rw[c6]at a1;rw[show (pl r p).off+(i*(pl r p).sz+c)+1=(pl r p).off+(i*(pl r p).sz+(c+1)) by omega];exact a1
     simp at o
    simp at f
   simp at f
  simp at f
 |[],_::_,_,_,_,_,_,_,_,_,_,_,_,_,h,_,_,_,_,_,_,_,_,_=>h.elim
 |_::_,[],_,_,_,_,_,_,_,_,_,_,_,_,h,_,_,_,_,_,_,_,_,_=>h.elim
end Go.Vs
namespace Go.Vs
variable [Glb]
variable {P:Program} {N:Nat} {w0:World} {own0:Nat->Nat->Prop} {pl0:Aw} {g:Bp} {pl:Aw} {S:St} {a:Act} {w:World} {K:V->List (Nat×Ao)->List (Nat×Root)->Nat->Prop}
def YZ{d:Nat}:∀{e:List C}{c:List Value},Ai (CR pl d) e c->∀v∈c,v.oneCell'=true
 |[],[],_,v,b=>by simp at b
 |_::_,_::_,h,v,b=>by
  rcases AX.1 b with rfl|b
  .exact CR.one h.1
  exact YZ h.2 v b
 |[],_::_,h,_,_=>h.elim
 |_::_,[],h,_,_=>h.elim
def xY(P:Program)(w0:World)(own0:Nat->Nat->Prop)(pl0:Aw)(pl:Aw)(S:St)(K:V->List (Nat×Ao)->List (Nat×Root)->Nat->Prop)(s:Sem Unit)(w:World):Prop:=
 ∃f e b d h c,s.run P w=.ok () f/\Hp w0 own0 pl0 h c b d d S.fix f/\(∀z u,CR pl S.next z u->CR c d (BE e z) u)/\K .un e b d
def Zn0(m:Rel N w0 own0 pl0 g pl S a w){t:TypeId}{x v:Operand}{j:W}(ht:E1 P (.store t x v)=some j)(h:wr S K j):
  xY P w0 own0 pl0 pl S K (Instr.storeAt t (a.eval x) (a.eval v)) w:=by
 simp only[E1,Bv,AO,Ac]at ht;obtain⟨i,hi,x',Z,v',hv,rfl⟩:=ht;have B:=Cc m Z;have h2:=Cc m hv;have q:∀(b o:Nat),a.eval x=.pointer (some ⟨b,o,none⟩)->(a.eval v).cells.size=i.size->(∀u∈(a.eval v).cells.toList,u.oneCell'=true) ->
   (∀j,j<(a.eval v).cells.toList.length->(∃u,w.cell? ⟨b,o+j,none⟩=some u)/\w.frozen? ⟨b,o+j,none⟩=false) ->
   (Instr.storeAt t (a.eval x) (a.eval v)).run P w=.ok () (Iy w b o (a.eval v).cells.toList):=by
  intro b o O hs B T;have Y:=bm (P:=P) b (a.eval v).cells.toList w o 0 B (by simpa using T);simp[Instr.storeAt,O,Instr.sureAddr,storeVar,sizeOf,typeInfo,hi,hs,Y]
 simp only[wr]at h;split at h
 .rename_i r c R;rw[R]at B;obtain⟨hr,s⟩:=BQ B;obtain⟨ys,y,hl,cs,C,U,M⟩:=h;have d:=Zz h2 y;have V:=d.length;obtain⟨_,X⟩:=m.hp.roots r _ C;obtain⟨L,hp,l⟩:=um (roots:=S.roots) ys (a.eval v).cells.toList cs c w S.roots m.hp C (by omega) d;refine⟨_,[],_,S.next,g,pl,q _ _ s (by rw[<-Hh];omega) (YZ d) ?_,hp.roots_eq (λt=>(l t).symm),λz u hk=>hk,by rw[hl];exact M⟩;intro j hj;obtain⟨u,H,_,_,I⟩:=X (c+j) _ (BW (show c+j<cs.length by omega));rw[<-FQ]at H I;exact⟨⟨u,H⟩,I⟩
 .rename_i r p i' c R;rw[R]at B;obtain⟨hr,a5,s⟩:=BQ B;obtain⟨ys,y,hl,e,hE,U,⟨G,es,f⟩,A,F,M⟩:=h;have d:=Zz h2 y;have V:=d.length;simp only[AO]at hE;obtain⟨n,J,D⟩:=hE;have E:AH G es p=some n:=by
   rw[OW]at J;unfold EA at J;rw[f]at J;exact J
  obtain⟨Q,hm⟩:=(m.hp.roots r _ f).2 p n E;obtain⟨g',a0,a6,a1,a2,a3,a4⟩:=lF (n0:=S.next) (AE _) ys (a.eval v).cells.toList S.roots c [] w g pl S.next A m.hp (AE _) (λt x Z=>(m.hp.roots t x Z).1) (λz u k=>k) d G es n e f E D (by omega) F;refine⟨_,A.2,A.1,S.next,_,a0,q _ _ s (by rw[<-Hh];omega) (YZ d) ?_,a1.trim (AE _) m.hp.fixle a3,a4,M⟩;intro j hj;have O:=Q.bound D (BW (show c+j<e.length by omega));obtain⟨_,H,I⟩:=hm (i'*n.1+(c+j)) (by rw[Q.szp];exact O.2.2.1);rw[Q.szp];rw[show (pl r p).off+(i'*n.1+c)+j=(pl r p).off+(i'*n.1+(c+j)) by omega];exact⟨H,I⟩
 exact h.elim
def tV{α:Type}(n:Nat)(l:List α):(AQ n l).length=n*l.length:=by
 induction n with
 |zero=>simp[AQ]
 |succ n b=>simp[AQ,b,Fn];omega
def tU{α:Type}{l:List α}:∀(n i c:Nat),i<n->c<l.length->(AQ n l)[i*l.length+c]?= l[c]?
 |0,_,_,h,_=>by omega
 |n+1,0,c,_,b=>by simp[AQ,E3 b]
 |n+1,i+1,c,h,b=>by
  simp only[AQ];rw[Dh (by rw[Fn];omega)];rw[show (i+1)*l.length+c-l.length=i*l.length+c by rw[Fn];omega];exact tU n i c (by omega) b
def rp(z:Array Value)(n:Nat)(c:0<z.size):∀j,j<n->(madeCells z n)[j]?= z[j%z.size]?:=by
 intro j b;have:j%z.size<z.size:=KG _ c;simp[madeCells,b,Array.getElem!_eq_getD,Array.getD,this]
def Zqo{e:Nat}{c:C}{v:Value}(h:CR pl e c v)(b:QH c=true):(Pw c=.lf v/\v.oneCell'=true)\/(∃s,Pw c=.sl s []/\v=.slice none 0 0):=by
 cases c with
 |lf x=>obtain⟨rfl,d⟩:=h;exact .inl ⟨rfl,d⟩
 |nl f=>exact .inr ⟨f,rfl,h⟩
 |un=>simp[QH]at b
 |rf=>simp[QH]at b
 |pe=>simp[QH]at b
 |pb=>simp[QH]at b
def Xj{pl:Aw}{c B b d n:Nat}{L:Ao->Pl}(e:pl c []=⟨false,B,0,b,d,none⟩)(f:n<=b):Gc (pl c []) d 0 n (.slice (some ⟨B,0,none⟩) n b):=by
 rw[e];exact⟨rfl,by simp,by simpa using f,some ⟨B,0,none⟩,by simp,λ_=>by simp⟩
def Zqe(G:Rel N w0 own0 pl0 g pl S a w){t:TypeId}{l c:Operand}{j:W}(k:E1 P (.makeSlice t l c)=some j)(h:wr S K j):
  MO P w0 own0 pl0 pl S K (Instr.makeSlice t (a.eval l) (a.eval c)) w:=by
 simp only[E1]at k;split at k
 .rename_i e hu;simp only[Bv,AO]at k;obtain⟨i,hi,z,hz,zc,V,k⟩:=k;split at k
  .rename_i x;obtain⟨F,a0⟩:=x;simp only[AO,Ac]at k;obtain⟨l',hl,o,hc,rfl⟩:=k;have Y:=Cc G hl;have Z:=Cc G hc;simp only[wr]at h;split at h
   .rename_i k1 z1 k2 f he hf;rw[he]at Y;rw[hf]at Z;obtain⟨R,_⟩:=BQ Y;obtain⟨T,_⟩:=BQ Z;obtain⟨rfl,h0,hb,H,m,hK⟩:=h;have n:=Ow (pl:=pl) (nx:=S.next) V;have C:=n.length;have X:z.cells.size=i.size:=by rw[<-Hh,<-C,F]
    have E:=run_make (P:=P) w t e i z hu hi hz k1 k2 f f h0 (RI _) (by rw[Int.mul_comm];omega) H;have M:=G.hp.fresh (madeCells z.cells (f.toNat*i.size)) e f.toNat i.size (size_madeCells _ _);have q:∀(B:Nat) (A:List D) (o:Nat) (d:D),(List.replicate f.toNat (zc.map Pw))[B]?= some A->A[o]?= some d ->
      ∃v,(w.alloc (.cells (madeCells z.cells (f.toNat*i.size)) e)).cell? ⟨w.heap.size,B*i.size+o,none⟩=some v/\((d=.lf v/\v.oneCell'=true)\/(∃s,d=.sl s []/\v=.slice none 0 0)):=by
     intro B A o d b hd;rw[mV]at b;split at b
     .rename_i O;simp only[Ac]at b;subst b;simp only[CQ,BP]at hd;obtain⟨y,U,rfl⟩:=hd;obtain⟨v,hv,J⟩:=n.get _ _ U;have a1:=getElem?_lt U;have Q:B*i.size+o<f.toNat*i.size:=Q5 O (AE _) (by omega);refine⟨v, ?_,Zqo J (by have:=DE.1 m y (CP U);exact this)⟩;rw[World.cell?_alloc_new,rp _ _ (by omega) _ Q,X];rw[Je,mW,KH (by omega)];simpa using hv
     simp at b
    have hx:=M.extendZ (r:=S.next) (sz:=i.size) (es:=[]) (by simp[get]) (by have:=G.hp.fixle;omega) (AE _) (List.replicate f.toNat (zc.map Pw)) (by
      intro A b;have:=dZ b;subst this;simpa using F) (by rw[CU];simp) (by
      intro B A o d b hd;rw[CU];obtain⟨v,e1,e2⟩:=q B A o d b hd;refine⟨v, ?_,e2⟩;simp only[Ay,A7];exact e1)
    have I:FO S.next pl (GE (FY pl S.next λ_=>⟨false,w.heap.size,0,f.toNat,i.size,none⟩) S.next (List.replicate f.toNat (zc.map Pw)) 0):=by
     intro r p hr;rw[Wo (AE _) r p hr,D6 _ _ _ _ _ hr]
    refine NQ hK (v:=.slice (some ⟨w.heap.size,0,none⟩) f.toNat f.toNat) ?_ (pl':=GE (FY pl S.next λ_=>⟨false,w.heap.size,0,f.toNat,i.size,none⟩) S.next (List.replicate f.toNat (zc.map Pw)) 0) ?_ (hx.bump.roots_eq ?_) (λz u hk=>(hk.agree I).mono (by omega))
    .rw[R,T];exact E
    .refine⟨by omega,Xj (L:=λ_=>default) ?_ (AE _)⟩;rw[Wp,CU]
    intro t';rw[Bn];simp only[get];split
    .simp
    rfl
   exact h.elim
  simp at k
 simp at k
end Go.Vs
namespace Go.Vs
variable [Glb]
variable {P:Program} {N:Nat} {w0:World} {own0:Nat->Nat->Prop} {pl0:Aw} {g:Bp} {pl:Aw} {S:St} {a:Act} {w:World} {K:V->List (Nat×Ao)->List (Nat×Root)->Nat->Prop}
def Qd{α:Type}(b:Nat):∀(n:Nat) (l:List α),(EO b n l).length=n
 |0,_=>rfl
 |n+1,l=>by simp[EO,Qd b n]
def Qc{α:Type}(b:Nat):∀(n:Nat) (l:List α) (i:Nat),i<n->(EO b n l)[i]?= some ((l.drop (i*b)).take b)
 |0,_,_,h=>by omega
 |n+1,l,0,_=>by simp[EO]
 |n+1,l,i+1,h=>by
  simp only[EO,AN];rw[Qc b n _ i (by omega),MC];rw[show b+i*b=(i+1)*b by rw[Fn];omega]
def yE{α:Type}{b n:Nat}{l:List α}{i c:Nat}{e:List α}{d:α}(f:(EO b n l)[i]?= some e)(hd:e[c]?= some d):i<n/\c<b/\l[i*b+c]?= some d:=by
 have j:=getElem?_lt f;rw[Qd]at j;rw[Qc b n l i j]at f;simp only[Ac]at f;subst f;rw[EM]at hd;by_cases h:c<b
 .rw[Af h,F2]at hd;exact⟨j,h,hd⟩
 rw[Ae h]at hd;simp at hd
def yF{α:Type}{b n:Nat}{l:List α}(h:l.length=n*b){e:List α}(f:e∈EO b n l):e.length=b:=by
 obtain⟨i,c⟩:=Kd f;have d:=getElem?_lt c;rw[Qd]at d;rw[Qc b n l i d]at c;simp only[Ac]at c;subst c;have:=HQ b (show i+1<=n by omega);rw[Fn]at this;simp;omega
def yG{b n:Nat}{l:List D}(s:l.length=n*b){i c:Nat}(m:i<n)(q:c<b)(d:D):Gk (EO b n l) i c d=EO b n (l.set (i*b+c) d):=by
 simp only[Gk,Qc b n l i m];apply MA;intro j;by_cases r:j<n
 .rw[Qc b n _ j r,Fo];split
  .rename_i e;subst e;rw[Af (by rw[Qd];exact m)];congr 1;apply MA;intro k;simp only[Fo,EM,F2,EF,Di];have o:=Q5 m (AE _) q;by_cases f:k<b
   .by_cases h:c=k
    .subst h;simp[f,o,show c<min b (n*b-i*b) by omega,s]
    simp[f,h,show ¬i*b+c=i*b+k by omega]
   simp[f,show ¬c=k by omega]
  rename_i p;rw[Qc b n l j r];congr 1;apply MA;intro k;simp only[Fo,EM,F2];by_cases f:k<b
  .have:¬i*b+c=j*b+k:=λe=>p (ri q f e).1;simp[f,this]
  simp[f]
 rw[KF (by rw[U3,Qd];omega),KF (by rw[Qd];omega)]
def vU{e:List (Nat×Root)}{c:C}{d:D}{b:List (Nat×Root)}(h:DZ e c=some (d,b)){R:Nat}{x:Root}{k:Nat}{v:Value}(m:CR pl k c v)(u:k<=R):
  DZ ((R,x)::e) c=some (d,(R,x)::b):=by
 unfold DZ at h ⊢;split at h
 .simp only[Ac,A5]at h;obtain⟨rfl,rfl⟩:=h;rfl
 .simp only[Ac,A5]at h;obtain⟨rfl,rfl⟩:=h;rfl
 .rename_i r p z n;have y:=m.1;have f:¬R=r:=by omega
  simp only[get,f,BC];split at h
  .rename_i s t j;split at h
   .rename_i q l o;split at h
    .rename_i i;simp only[Ac,A5]at h;obtain⟨rfl,rfl⟩:=h;simp only[j,o,i,and_self,BF];congr 2;unfold BV;split
     .simp[BR,f]
     simp only[get,f,BC,j];simp[put,f]
    simp at h
   simp at h
  simp at h
 simp at h
def gh:C->Value->D
 |.nl s,_=>.sl s []
 |_,u=>.lf u
def G8:List C->List Value->List D
 |c::b,u::d=>gh c u::G8 b d
 |_,_=>[]
def hV:∀{b:List C}{c:List Value}{R:C->Value->Prop},Ai R b c->(G8 b c).length=b.length
 |[],[],_,_=>rfl
 |_::_,_::_,_,h=>by simp[G8,hV h.2]
 |[],_::_,_,h=>h.elim
 |_::_,[],_,h=>h.elim
def qX:∀{b:List C}{e:List Value}{R:C->Value->Prop},Ai R b e->∀(k:Nat) (d:D),(G8 b e)[k]?= some d->∃c u,b[k]?= some c/\e[k]?= some u/\d=gh c u/\R c u
 |[],[],_,_,k,d,h=>by simp[G8]at h
 |c::b,u::e,R,h,0,d,hd=>by simp[G8]at hd;exact⟨c,u,rfl,rfl,hd.symm,h.1⟩
 |c::b,u::e,R,h,k+1,d,hd=>by
  simp only[G8,AN]at hd;simpa using qX h.2 k d hd
 |[],_::_,_,h,_,_,_=>h.elim
 |_::_,[],_,h,_,_,_=>h.elim
def Hp.move_id{b:List (Nat×Root)}{y m f:Nat}(h:Hp w0 own0 pl0 g pl b y m f w){R szR:Nat}{esR:List (List D)}(A:get b R=some (.tr szR esR)){P:Ao}{s:Nat×List (List D)}(z:AH szR esR P=some s)
  {i c:Nat} {e:List D} {v:Value} (B:s.2[i]?= some e) (hd:e[c]?= some (.lf v)) (j:f<=R) (F:m<=R)
  {r:Nat} (l:r≠R) {p:Ao} {sz n sz0:Nat} {es:List (List D)} (o:get b r=some (.tr sz0 es)) {d:List (List D)} (G:AH sz0 es p=some (sz,d)) (E:n<=d.length)
  (H:Gc (pl r p) sz 0 n v):
  Hp w0 own0 pl0 (Ld g r p R (P++[(i,c)])) (IR pl R (P++[(i,c)]) λq=>pl r (p++q))
   (put (BV b r p) R (.tr szR (DQ esR P i c (.sl sz (d.take n))))) y m f w:=by
 have C:=h.move (κ:=λx=>x) A z B hd j l o G E H (λx u k=>k.agree λr p o=>IS (by rintro ⟨rfl,_⟩;omega));refine C.roots_eq λt=>?_;rw[Bn,Bn,Qu];split
 .rfl
 cases get (BV b r p) t with
 |none=>rfl
 |some x=>simp[Root.map_id]
def Zkj(c:Nat)(b:List (List D)):AH c b []=some (c,b):=rfl
def rk{R sz len T H:Nat}(M:H<=R)(V:T<=R){plI:Aw}:∀(q:List C) (G:List Value) (f:List D) (b:List (Nat×Root)) (g:Bp) (pl:Aw) (B:Nat) (o:List D×List (Nat×Root)),
  Hp w0 own0 pl0 g pl ((R,.tr sz (EO sz len (f++G8 q G)))::b) B T H w->R<B->f.length+q.length=len*sz->Ai (CR plI T) q G->FO T plI pl->Dd b q=some o ->
  ∃g' E I,Hp w0 own0 pl0 g' E ((R,.tr sz (EO sz len (f++o.1)))::o.2) I T H w/\R<I/\FO T plI E/\E R []=pl R []/\(∀t x,get o.2 t=some x->∃y,get b t=some y)
 |[],[],f,b,g,pl,B,o,h,z,hl,_,l,F=>by
  simp only[Dd,Ac]at F;subst F;exact⟨g,pl,B,by simpa[G8] using h,z,l,rfl,λt x hx=>⟨x,hx⟩⟩
 |c::q,u::G,f,b,g,pl,B,o,h,z,hl,A,l,F=>by
  unfold Dd at F;split at F
  .rename_i d j i;split at F
   .rename_i ds L b3;simp only[Ac]at F;subst F;have U:=A.1.agree l;have a6:=vU (x:=.tr sz (EO sz len (f++G8 (c::q) (u::G)))) i U V;have Z:=hV A.2;simp only[Aq]at hl;have next:∃g1 m J,Hp w0 own0 pl0 g1 m ((R,.tr sz (EO sz len (f++d::G8 q G)))::j) J T H w/\R<J/\FO T plI m/\m R []=pl R []:=by
     cases c with
     |lf x=>
      simp only[DZ,Ac,A5]at i;obtain⟨rfl,rfl⟩:=i;obtain⟨rfl,_⟩:=U;exact⟨g,pl,B,h,z,l,rfl⟩
     |nl s=>
      simp only[DZ,Ac,A5]at i;obtain⟨rfl,rfl⟩:=i;exact⟨g,pl,B,h,z,l,rfl⟩
     |un=>simp[DZ]at i
     |pe=>simp[DZ]at i
     |pb=>simp[DZ]at i
     |rf r p s lo n=>
      obtain⟨W,g1,m,rfl,h1,k,a7,b0⟩:=Zoe h U a6;have hk:f.length<len*sz:=by omega
      have b2:0<sz:=by
       rcases Yj sz with h0|h0
       .subst h0;simp at hk
       exact h0
      have O:f.length / sz<len:=U6 (by rw[Je];exact hk);have Q:f.length%sz<sz:=KG _ b2;have Y:f.length / sz*sz+f.length%sz=f.length:=by rw[Je];exact U7 _ _
      have a9:(f++G8 (.rf r p s lo n::q) (u::G)).length=len*sz:=by simp[G8,Z];omega
      have a8:(f++G8 (.rf r p s lo n::q) (u::G))[f.length]?= some (.lf u):=by simp[G8,gh]
      have he:=Qc sz len (f++G8 (.rf r p s lo n::q) (u::G)) _ O;have hm:=h1.move_id (R:=R) (szR:=sz) (esR:=EO sz len (f++G8 (.rf r p s lo n::q) (u::G))) (P:=[]) (by simp only[get];rw[Ae (by omega)];simp) (Zkj _ _) he (c:=f.length%sz) (v:=u)
       (by rw[EM,Af Q,F2,Y];exact a8) M V (r:=B) (by omega) (p:=[]) (sz:=s) (n:=W.length) (sz0:=s) (es:=W) (by simp[get]) rfl (AE _) a7
      refine⟨_,_,B+1,hm.roots_eq λt=>?_,by omega,λr p hr=>?_, ?_⟩
      .rw[Bn];simp only[BV,get];split
       .simp only[DQ,EL];rw[yG a9 O Q,Y,Jd];congr 3;simp[G8,gh]
       rename_i b1;rw[Ii];simp only[get,b1,BC];split
       .rename_i e;subst e;cases hq:get j B with
        |none=>rfl
        |some x=>
         have:=b0 B x (by simp only[get];rw[Ae (by omega)];exact hq);omega
       rfl
      .rw[IS (by rintro ⟨rfl,_⟩;omega),k r p (by have:=h.ncle;omega)];exact l r p hr
      rw[IS (by simp),k R [] z]
    obtain⟨g1,m,J,h1,X,k,a0⟩:=next;obtain⟨g',E,I,a1,a2,a3,a4,a5⟩:=rk M V q G (f++[d]) j g1 m J (ds,L) (by simpa using h1) X (by simp;omega) A.2 k b3;refine⟨g',E,I,by simpa using a1,a2,a3,a4.trans a0,λt x hx=>?_⟩;obtain⟨y,hy⟩:=a5 t x hx;exact lK i hy
   simp at F
  simp at F
 |[],_::_,_,_,_,_,_,_,_,_,_,h,_,_=>h.elim
 |_::_,[],_,_,_,_,_,_,_,_,_,h,_,_=>h.elim
end Go.Vs
