import Derived.ChangeArms
import Derived.ChangeSlices
import Derived.WideShapes
import Derived.DataReads
import Derived.ChangeShapes
import Derived.Laws.RangeAny
import Derived.OpenShut
import Derived.LaidMore
import Derived.Test.YtmpopjdcbabchaaGreatDoorVsW4
import Derived.Test.YtmpopjdcbabchaaGreatDoorVsW2
import Derived.Test.YtmpopjdcbabchaaGreatDoorVsW1
set_option linter.all false
namespace Go.Vs
variable [Glb]
def RunL (P:Program):List GI->St->(St->Prop)->Prop
 | [],S,K=>∃T,Le S T/\K T
 | g::l,S,K=>∃T,Le S T/\stepO P g T fun S'=>RunL P l S' K
section
variable {P:Program} {N:Nat} {S:St} {Q:Exit->St->Prop}
theorem runL_ok {ops:Array Oper}{w0:World}{own0:Nat->Nat->Prop}{pl0:Pls}{fx:Nat}:∀(l:List Oper) (k:Nat) (gis:List GI) (S:St) (g:Lab) (pl:Pls) (a:Act) (w:World),(∀j,l[j]? = ops[k+j]?)->trOpers P N ops l=some gis->S.fix=fx->Rel N w0 own0 pl0 g pl S a w->RunL P gis S (Q .normal) ->
  wpOps P ops (PQ N w0 own0 pl0 fx Q) (List.range' k l.length) a w
 | [],k,gis,S,g,pl,a,w,_,ht,hf,hR,h=>by
  simp only[trOpers,Option.some.injEq]at ht;subst ht
  obtain⟨T,hl,hK⟩:=h
  obtain⟨g',pl',hR'⟩:=hl.2 N w0 own0 pl0 g pl a w hR
  exact⟨T,g',pl',hK,hl.1.trans hf,hR'⟩
 | o::l,k,gis,S,g,pl,a,w,hl,ht,hf,hR,h=>by
  simp only[trOpers,Option.bind_eq_bind,Option.bind_eq_some_iff,Option.some.injEq]at ht
  obtain⟨gi,hgi,gs,hgs,rfl⟩:=ht
  obtain⟨T,hle,h⟩:=h
  obtain⟨g',pl',hR'⟩:=hle.2 N w0 own0 pl0 g pl a w hR
  simp only[List.length_cons,List.range'_succ]
  rw[wpOps_cons]
  have h0:ops[k]? = some o:=by simpa using (hl 0).symm
  refine stepO_ok hR' h0 hgi h ?_
  intro S' g2 pl2 a' w' hf' hK hR2
  exact runL_ok l (k+1) gs S' g2 pl2 a' w' (fun j=>by have:=hl (j+1);simpa [Nat.add_assoc,Nat.add_comm 1 j] using this) hgs (by rw[hf',hle.1,hf]) hR2 hK
theorem vw_regionL {id:Nat}{ops:Array Oper}{gis:List GI}(ht:trOpers P N ops ops.toList=some gis) (h:RunL P gis S (Q .normal)):Vw P N (.region id ops false) S Q:=fun w0 own0 pl0 g pl a w hR=>by
 refine wp_region ?_
 rw[List.range_eq_range',<-Array.length_toList]
 exact runL_ok ops.toList 0 gis S g pl a w (by simp) ht rfl hR h
theorem sw_regL {gis:List GI}(h:RunL P gis S (Q .normal)):Sw P N (.reg gis) S Q:=fun c hc=>by
 cases c with
 | region id ops d =>
  cases d with
  | false =>
   simp only[trC,Option.map_eq_some_iff,Stm.reg.injEq]at hc
   obtain⟨gs,hg,rfl⟩:=hc
   exact vw_regionL hg h
  | true=>simp [trC]at hc
 | seq a b=>simp [trC,Option.bind_eq_bind,Option.bind_eq_some_iff]at hc
 | cond c a b=>simp [trC,Option.bind_eq_bind,Option.bind_eq_some_iff]at hc
 | _=>simp [trC]at hc
theorem stepO_mono {g:GI}{K K':St->Prop}(h:stepO P g S K) (hk:∀S',K S'->K' S'):stepO P g S K':=by
 have e:∀j:J,evJ P S (fun x ks roots nx=>K ⟨setEnv g.dst x (killEnv ks S.env),roots,nx,S.fix⟩) j->evJ P S (fun x ks roots nx=>K' ⟨setEnv g.dst x (killEnv ks S.env),roots,nx,S.fix⟩) j:=by
  intro j hj
  obtain⟨x,ks,r,n,h1,h2⟩:=evJ_ext hj
  exact h2 _ (hk _ h1)
 unfold stepO at h ⊢
 split at h
 ·rename_i hg;exact e _ h
 ·rename_i t want hg
  split at h
  ·exact⟨fun hb=>e _ (h.1 hb),fun hb=>hk _ (h.2 hb)⟩
  ·exact hk _ h
  ·exact h.elim
theorem runL_app {K:St->Prop}:∀(l l':List GI) (S:St),RunL P l S (fun S'=>RunL P l' S' K)->RunL P (l++l') S K
 | [],[],S,h=>by
  obtain⟨T,h1,U,h2,h3⟩:=h
  exact⟨U,h1.trans h2,h3⟩
 | [],g::l',S,h=>by
  obtain⟨T,h1,U,h2,h3⟩:=h
  exact⟨U,h1.trans h2,h3⟩
 | g::l,l',S,h=>by
  obtain⟨T,h1,h2⟩:=h
  exact⟨T,h1,stepO_mono h2 fun S' h=>runL_app l l' S' h⟩
end
structure CEnt (P:Program) where
 f:FuncId
 F:List UInt8->Option Int
 ok:∀x h,F x=some h->Makes P f (.sl 1 (x.map (encT .Y))) [.int .i64 0,.int .i64 h]
def curX {P:Program}{β:Type}(X:XSt) (e:CEnt P) (vs:List XV) (k:XV->XSt->Option β):Option β:=match vs with
 | [.a (.c c)]=>readT X.roots (.L .Y) [c] fun x rest=>match rest with
  | []=>bnd (e.F x) fun h=>k (.a (.c (.pb X.next 0))) (X.newR (.bx [(X.stamp,c),(X.stamp,.i .i64 0),(X.stamp,.i .i64 h)]))
  | _=>none
 | _=>none
theorem curX_ok {P:Program}{β:Type}{X:XSt}{S:St}{out:β}(hX:XOk X) (hS:SimX X S){e:CEnt P}{args:List Opd}{k:XV->XSt->Option β}(h:curX X e (args.map X.opd) k=some out):ClOk P X S e.f args k out:=by
 unfold curX at h
 split at h
 ·rename_i c hc
  have ha:=args_sim hX hS args
  rw[hc]at ha
  match hy:args.map S.opd,ha with
  | [y],ha =>
  obtain⟨⟨hw,ho⟩,_⟩:=ha
  obtain⟨x,c0,rest,hcc,h,hcd⟩:=readT_ok (nx:=X.next) (st:=X.stamp) (.L .Y) [c] _ out (fun c' hc=>by simp only[List.mem_singleton]at hc;subst hc;exact ho) h
  split at h
  ·rw[List.append_nil]at hcc
   subst hcc
   obtain⟨z,hz,h⟩:=bnd_some h
   have hcd1:CD X.roots c (.sl 1 (x.map (encT .Y))):=hcd.1
   have hyc:=hw.c hcd1.ne
   have hnx:S.next=X.next:=hS.next
   have hM:=e.ok x z hz
   obtain⟨f1,f2,f3⟩:=newR_ok (x:=.bx [(X.stamp,c),(X.stamp,.i .i64 0),(X.stamp,.i .i64 z)]) (y:=.bx [cC X.roots c,.lf (.int .i64 0),.lf (.int .i64 z)]) (E:=S.env) (R:=S.roots) (n:=S.next) (f:=S.fix) hX hS (fun cs' h e he=>by
    simp only[XR.bx.injEq]at h
    subst h
    simp only[List.mem_cons,List.not_mem_nil,or_false]at he
    rcases he with rfl|rfl|rfl
    ·exact⟨rfl,ho⟩
    ·exact⟨rfl,trivial⟩
    ·exact⟨rfl,trivial⟩) ⟨_,rfl,⟨WkC.refl _,WkC.refl _,WkC.refl _,trivial⟩⟩
   refine⟨_,_,h,f1,f2,Nat.lt_succ_self _,rfl,.a (.c (.pb S.next 0)),[],(S.next,.bx [cC X.roots c,.lf (.int .i64 0),.lf (.int .i64 z)])::S.roots,pb_wk hnx, ?_,⟨rfl,fun r s x hl hs=>?_⟩,fun K hK=>?_⟩
   ·rw[killEnv_nil,hnx];exact f3
   ·simp only[XSt.newR]at hl
    rw[lk_cons]at hl
    split at hl
    ·simp only[Option.some.injEq,Prod.mk.injEq]at hl;omega
    ·rename_i hne
     simp only[get]
     rw[if_neg (by rw[hnx];exact hne)]
   ·refine .inr (.inr (.inr ⟨cC X.roots c,_,_,by rw[hy,hyc],hM,cd_sees hS hcd1, ?_⟩))
    rw[hnx];rw[hnx]at hK;exact hK
  ·simp at h
 ·simp at h
structure HEnt (P:Program) where
 f:FuncId
 g:FuncId
 n:Nat
 args:List GArg
 res:List (Bool×Ty)
 F:Tp (argTys args)->Option (Tp (outTys args res))
 ok:∀x y,F x=some y->RunsC (fun ws w R=>Calls P f (wrapF n g ws).toArray w R) (argsG args x) (outG args res (spread _ y))
def vaX:List XA->List XV
 | []=>[]
 | a::l=>.a a::vaX l
def appV:List XV->List XV->List XV
 | [],r=>r
 | a::l,r=>a::appV l r
def cutV {β:Type}:Nat->List XV->List XV->(List XV->FuncId->List XA->Option β)->Option β
 | 0,[v],acc,k=>match v with
  | .fn g cs=>k acc g cs
  | _=>none
 | n+1,v::l,acc,k=>cutV n l (appV acc [v]) k
 | _,_,_,_=>none
def callH {P:Program}{β:Type}(X:XSt) (e:HEnt P) (vs:List XV) (k:XV->XSt->Option β):Option β :=
 cutV e.n vs [] fun us g cs=>match Nat.beq g e.g with
  | true=>callGF X e.args e.res e.F (appV us (vaX cs)) k
  | false=>none
theorem appV_eq:∀(l r:List XV),appV l r=l++r
 | [],r=>rfl
 | a::l,r=>by simp only[appV,appV_eq l r,List.cons_append]
theorem vaX_eq:∀l:List XA,vaX l=l.map XV.a
 | []=>rfl
 | a::l=>by simp only[vaX,vaX_eq l,List.map_cons]
theorem cutV_ok {β:Type}{out:β}:∀(n:Nat) (vs acc:List XV){k:List XV->FuncId->List XA->Option β},cutV n vs acc k=some out->∃us g cs,vs=us++[.fn g cs]/\us.length=n/\k (acc++us) g cs=some out
 | 0,[],acc,k,h=>by simp [cutV]at h
 | 0,v::w::l,acc,k,h=>by simp [cutV]at h
 | 0,[v],acc,k,h=>by
  simp only[cutV]at h
  split at h
  ·exact⟨[],_,_,rfl,rfl,by simpa using h⟩
  ·cases h
 | n+1,[],acc,k,h=>by simp [cutV]at h
 | n+1,v::l,acc,k,h=>by
  simp only[cutV]at h
  obtain⟨us,g,cs,rfl,h1,h2⟩:=cutV_ok n l _ h
  refine⟨v::us,g,cs,rfl,by simp [h1], ?_⟩
  rw[appV_eq]at h2
  simpa using h2
theorem all2_va2 {X:XSt}:∀{ys:List A}{cs:List XA},All2 WkA ys (cs.map (cA X.roots))->(∀x∈cs,okA X.roots X.next X.stamp x)->All2 (fun y v=>WkV y (cV X.roots v)/\okV X.roots X.next X.stamp v) (ys.map V.a) (cs.map XV.a)
 | [],[],_,_=>trivial
 | y::ys,c::cs,h,ho=>⟨⟨h.1,ho c List.mem_cons_self⟩,all2_va2 h.2 fun x hx=>ho x (List.mem_cons_of_mem _ hx)⟩
 | [],_::_,h,_=>h.elim
 | _::_,[],h,_=>h.elim
theorem all2_splitR {α β:Type}{R:α->β->Prop}:∀{as:List α}{bs cs:List β},All2 R as (bs++cs)->∃a1 a2,as=a1++a2/\All2 R a1 bs/\All2 R a2 cs
 | as,[],cs,h=>⟨[],as,rfl,trivial,h⟩
 | [],b::bs,cs,h=>h.elim
 | a::as,b::bs,cs,h=>by
  obtain⟨a1,a2,rfl,h1,h2⟩:=all2_splitR h.2
  exact⟨a::a1,a2,rfl,⟨h.1,h1⟩,h2⟩
theorem callH_ok {P:Program}{β:Type}{X:XSt}{S:St}{out:β}(hX:XOk X) (hS:SimX X S){e:HEnt P}{args:List Opd}{k:XV->XSt->Option β}(h:callH X e (args.map X.opd) k=some out):ClOk P X S e.f args k out:=by
 unfold callH at h
 obtain⟨us,g,cs,hvs,hn,h⟩:=cutV_ok _ _ _ h
 simp only[List.nil_append]at h
 split at h
 case h_2=>cases h
 rename_i hb
 have hg:=Nat.eq_of_beq_eq_true hb
 subst hg
 rw[appV_eq,vaX_eq]at h
 have ha:=args_sim hX hS args
 rw[hvs]at ha
 obtain⟨y1,y2,hy,h1,h2⟩:=all2_splitR ha
 match y2,h2 with
 | [y],h2 =>
  obtain⟨⟨hw,ho⟩,_⟩:=h2
  cases y with
  | fn q caps =>
   obtain⟨rfl,hw⟩:=hw
   have hl:=h1.length
   refine (callGF_ok hX hS e.ok (All2.append h1 (all2_va2 hw ho)) h).mono fun K hK=>.inr (.inr (.inl ⟨y1,e.g,caps,hy, ?_⟩))
   rw[show y1.length=e.n by omega]
   exact hK
  | _=>exact hw.elim
inductive Fx (P:Program) where
 | see (e:SEnt P)
 | gen (e:GEnt P)
 | cur (e:CEnt P)
 | hof (e:HEnt P)
 | fs (e:SEnt P) (h:bodied P e.f=true)
 | fv (e:GEnt P) (h:bodied P e.f=true)
def Fx.f {P:Program}:Fx P->FuncId
 | .see e=>e.f
 | .gen e=>e.f
 | .cur e=>e.f
 | .hof e=>e.f
 | .fs e _=>e.f
 | .fv e _=>e.f
def findE {P:Program}:List (Fx P)->FuncId->Option (Fx P)
 | [],_=>none
 | e::l,f=>match Nat.beq e.f f with
  | true=>some e
  | false=>findE l f
theorem findE_f {P:Program}{f:FuncId}{e:Fx P}:∀{l:List (Fx P)},findE l f=some e->e.f=f
 | [],h=>by simp [findE]at h
 | x::l,h=>by
  simp only[findE]at h
  split at h
  ·rename_i hb
   simp only[Option.some.injEq]at h
   subst h
   exact Nat.eq_of_beq_eq_true hb
  ·exact findE_f h
def hnt (H:List (Nat×Hn)) (d:Option Nat):Hn:=match d with
 | none=>.no
 | some t=>match H with
  | []=>.no
  | (q,h)::l=>match Nat.beq q t with
   | true=>h
   | false=>hnt l (some t)
def calvX {P:Program}{β:Type}(Φ:List (Fx P)) (X:XSt) (f:Opd) (args:List Opd) (k:XV->XSt->Option β):Option β:=match X.opd f with
 | .fn g cs=>match findE Φ g with
  | some (.fs e _)=>seeX X e (appV (args.map X.opd) (vaX cs)) k
  | some (.fv e _)=>callG X e (appV (args.map X.opd) (vaX cs)) k
  | _=>none
 | _=>none
theorem calvX_ok {P:Program}{β:Type}{Φ:List (Fx P)}{X:XSt}{S:St}{out:β}(hX:XOk X) (hS:SimX X S){f:Opd}{args:List Opd}{k:XV->XSt->Option β}(h:calvX Φ X f args k=some out):ClT X S (fun K=>evJ P S K (.wr (.calv f args))) k out:=by
 unfold calvX at h
 split at h
 case h_2=>cases h
 rename_i g cs hf
 have h1:=opd_sim hS f
 have h2:=opd_okV hX f
 rw[hf]at h1 h2
 have ha:=args_sim hX hS args
 rw[appV_eq,vaX_eq]at h
 cases hy:S.opd f with
 | fn q caps =>
  rw[hy]at h1
  obtain⟨rfl,hw⟩:=h1
  have hall:=All2.append ha (all2_va2 hw h2)
  split at h
  ·rename_i e hb he
   have:=findE_f he
   simp only[Fx.f]at this
   subst this
   exact (seeV_ok hX hS hall h).mono fun K hK=>⟨_,_,hy,hb,.inr (.inl hK)⟩
  ·rename_i e hb he
   have:=findE_f he
   simp only[Fx.f]at this
   subst this
   exact (callGF_ok hX hS (C:=fun vs w R=>Calls P e.f vs.toArray w R) e.ok hall h).mono fun K hK=>⟨_,_,hy,hb,.inl hK⟩
  ·cases h
 | _=>rw[hy]at h1;exact h1.elim
def doX {P:Program}{β:Type}(Φ:List (Fx P)) (H:List (Nat×Hn)) (g:GI) (X:XSt) (k:XSt->Option β):Option β:=match g.op with
 | .rd i=>rdX X i fun v=>k (X.put g.dst v)
 | .wr j=>match j with
  | .call f args=>match findE Φ f with
   | some (.see e)=>seeX X e (args.map X.opd) fun v X'=>k (X'.put g.dst v)
   | some (.gen e)=>callG X e (args.map X.opd) fun v X'=>k (X'.put g.dst v)
   | some (.cur e)=>curX X e (args.map X.opd) fun v X'=>k (X'.put g.dst v)
   | some (.hof e)=>callH X e (args.map X.opd) fun v X'=>k (X'.put g.dst v)
   | _=>none
  | .calv f args=>calvX Φ X f args fun v X'=>k (X'.put g.dst v)
  | j=>wrX X (hnt H g.dst) j fun v X'=>k (X'.put g.dst v)
def XSt.know (X:XSt) (t:Nat) (b:Bool):XSt:=X.put (some t) (.a (.c (.b b)))
def XSt.knowO (X:XSt) (c:Opd) (b:Bool):XSt:=match c with
 | .t n=>X.know n b
 | .k _=>X
def stepX {P : Program} {β : Type} (Φ : List (Fx P)) (H : List (Nat × Hn)) (g : GI) (X : XSt) (k : XSt → Option β) : Option β := match g.guard with
  | none => doX Φ H g X k
  | some (t, want) => match lk X.env t with
    | some (_, .a (.c (.b b))) => cnd b
      (match want with
        | true => doX Φ H g (X.know t true) k
        | false => k ((X.know t true).put g.dst (.tp [])))
      (match want with
        | true => k ((X.know t false).put g.dst (.tp []))
        | false => doX Φ H g (X.know t false) k)
    | some (_, .tp _) => k (X.put g.dst (.tp []))
    | _ => none
def runO {P:Program}{β:Type}(Φ:List (Fx P)) (H:List (Nat×Hn)):List GI->XSt->(XSt->Option β)->Option β
 | [],X,k=>k X
 | g::l,X,k=>stepX Φ H g X fun X'=>runO Φ H l X' k
def runG {P:Program}{β:Type}(Φ:List (Fx P)) (H:List (Nat×Hn)):List (Nat×List It)->List GI->XSt->(XSt->Option β)->Option β
 | [],gis,X,k=>runO Φ H gis X k
 | (n,its)::l,gis,X,k=>joinX (runO (β:=Tp (It.tys its) ⊕ β) Φ H (gis.take n) X fun X'=>packN X X' its fun s=>some (.inl s)) fun s=>runG Φ H l (gis.drop n) (unpackX X its s) k
def locX (X:XSt) (i:I):List Nat:=match i with
 | .load _ x=>match X.opd x with
  | .a (.c (.pe r _ _ _ _ _ _))=>[r]
  | .a (.c (.pb r _))=>[r]
  | _=>[]
 | .b2s x=>match X.opd x with
  | .a (.c (.rw r))=>[r]
  | .a (.c (.rv r _ _))=>[r]
  | .a (.c (.rf r _ _ _ _ _))=>[r]
  | _=>[]
 | _=>[]
def locJ (X:XSt) (j:J):List Nat:=match j with
 | .rd i=>locX X i
 | .wr _=>[]
def stampsX (R:XRs):List Nat->List (Nat×Nat)
 | []=>[]
 | r::l=>match lk R r with
  | some (s,_)=>(r,s)::stampsX R l
  | none=>stampsX R l
def isLk (R:XRs):List Nat->Bool
 | []=>true
 | r::l=>match lk R r with
  | some _=>isLk R l
  | none=>false
def sameL (R:XRs):List (Nat×Nat)->Bool
 | []=>true
 | (r,s)::l=>verOk R r s&&sameL R l
def sameH (l:List (Nat×Nat)):List XRs->Bool
 | []=>true
 | R::h=>sameL R l&&sameH l h
abbrev XPend:=List (List (Nat×Nat)×Nat)
def sameP (R:XRs) (n:Nat):XPend->Bool
 | []=>true
 | (l,hi)::ps=>(match Nat.ble n hi with
  | true=>sameL R l
  | false=>true)&&sameP R n ps
def doD {P:Program}{β:Type}(Φ:List (Fx P)) (H:List (Nat×Hn)) (g:GI) (X:XSt) (k:XV->XSt->Option β):Option β:=match g.op with
 | .rd i=>rdX X i fun v=>k v X
 | .wr j=>match j with
  | .call f args=>match findE Φ f with
   | some (.see e)=>seeX X e (args.map X.opd) k
   | some (.gen e)=>callG X e (args.map X.opd) k
   | some (.cur e)=>curX X e (args.map X.opd) k
   | some (.hof e)=>callH X e (args.map X.opd) k
   | _=>none
  | .calv f args=>calvX Φ X f args k
  | j=>match plainW X j with
   | true=>wrX X (hnt H g.dst) j k
   | false=>none
def stepD {P : Program} {β : Type} (Φ : List (Fx P)) (H : List (Nat × Hn)) (g : GI) (X : XSt) (k : List Nat → XV → XSt → Option β) : Option β := match g.guard with
  | none => doD Φ H g X fun v X' => k (locJ X g.op) v X'
  | some (t, want) => match lk X.env t with
    | some (_, .a (.c (.b b))) => cnd b
      (match want with
        | true => doD Φ H g (X.know t true) fun v X' => k (locJ (X.know t true) g.op) v X'
        | false => k [] (.tp []) (X.know t true))
      (match want with
        | true => k [] (.tp []) (X.know t false)
        | false => doD Φ H g (X.know t false) fun v X' => k (locJ (X.know t false) g.op) v X')
    | some (_, .tp _) => k [] (.tp []) X
    | _ => none
def noPend (m:Nat):XPend->Bool
 | []=>true
 | (_,hi)::l=>Nat.ble hi m&&noPend m l
def lastOk (n:Nat) (it:DI) (l:List DI) (m:Nat) (pend:XPend):Bool:=match l with
 | []=>it.w&&((List.range (n-1)).all (fun b=>it.anc.contains b)&&noPend m pend)
 | _=>false
def drawX {P:Program}{β:Type}(Φ:List (Fx P)) (H:List (Nat×Hn)) (n:Nat):List DI->XSt->List XRs->XPend->(XSt->Option β)->Option β
 | [],X,_,_,k=>k X
 | it::l,X,hist,pend,k=>match lastOk n it l hist.length pend with
  | true=>stepX Φ H it.gi X k
  | false=>stepD Φ H it.gi X fun loc v X'=>match it.w with
  | true=>match sameP X'.roots (hist.length+1) pend with
   | true=>drawX Φ H n l (X'.put it.gi.dst v) (X.roots::hist) pend k
   | false=>none
  | false=>match isLk X'.roots loc&&sameH (stampsX X'.roots loc) (hist.take (hist.length-it.lo)) with
   | true=>drawX Φ H n l (X'.put it.gi.dst v) hist (match Nat.blt hist.length it.hi with
    | true=>(stampsX X'.roots loc,it.hi)::pend
    | false=>pend) k
   | false=>none
inductive An where
 | d
 | rg (l:List (Nat×List It))
 | sq (j:Option (List It)) (a b:An)
 | cd (a b:An)
 | bl (a:An)
 | lp (its:List It) (a:An)
 | pl (a:An) (its:List It) (b:An)
open Classical in
noncomputable def alt2 {β:Type}(a b:Option β):Option β:=if a=b then a else none
theorem alt2_self {β:Type}(a:Option β):alt2 a a=a:=by unfold alt2;rw[if_pos rfl]
theorem alt2_some {β:Type}{a b:Option β}{r:β}(h:alt2 a b=some r):a=some r/\b=some r:=by
 unfold alt2 at h
 split at h
 ·rename_i e;exact⟨h,by rw[<-e];exact h⟩
 ·cases h
noncomputable def altX {β:Type}(f:List DI->Option β):List (List DI)->Option β
 | []=>none
 | its::l=>match l with
  | []=>f its
  | _=>alt2 (f its) (altX f l)
theorem altX_some {β:Type}{f:List DI->Option β}{r:β}:∀{l:List (List DI)},altX f l=some r->∀its∈l,f its=some r
 | [],h,its,hi=>by cases hi
 | x::l,h,its,hi=>by
  simp only[altX]at h
  split at h
  ·rcases List.mem_cons.1 hi with rfl|hi
   ·exact h
   ·cases hi
  ·obtain⟨h1,h2⟩:=alt2_some h
   rcases List.mem_cons.1 hi with rfl|hi
   ·exact h1
   ·exact altX_some h2 its hi
noncomputable def runX {P:Program}(Φ:List (Fx P)) (H:List (Nat×Hn)):Stm->An->{β:Type}->XSt->(Exit->XSt->Option β)->Option β
 | .reg gis,an,_,X,k=>match an with
  | .rg l=>runG Φ H l gis X (k .normal)
  | _=>runO Φ H gis X (k .normal)
 | .seq x y,an,β,X,k=>match an with
  | .sq (some its) a b=>joinX (runX Φ H x a (β:=Tp (It.tys its) ⊕ β) X fun e X'=>match e with
    | .normal=>packN X X' its fun s=>some (.inl s)
    | e=>outX (k e X')) fun s=>runX Φ H y b (unpackX X its s) k
  | .sq none a b=>runX Φ H x a X fun e X'=>match e with
    | .normal=>runX Φ H y b X' k
    | e=>k e X'
  | _=>runX Φ H x .d X fun e X'=>match e with
    | .normal=>runX Φ H y .d X' k
    | e=>k e X'
 | .cond c x y,an,_,X,k=>match X.opd c with
  | .a (.c (.b t))=>match an with
   | .cd a b=>cnd t (runX Φ H x a (X.knowO c true) k) (runX Φ H y b (X.knowO c false) k)
   | _=>cnd t (runX Φ H x .d (X.knowO c true) k) (runX Φ H y .d (X.knowO c false) k)
  | _=>none
 | .block id x,an,_,X,k=>runX Φ H x (match an with|.bl a=>a|_=>.d) X fun e X'=>match e with
  | .exit id'=>match Nat.beq id' id with
   | true=>k .normal X'
   | false=>k (.exit id') X'
  | e=>k e X'
 | .loop x,an,β,X,k=>match an with
  | .lp its a=>packN X X its fun s=>loopX (fun s=>runX Φ H x a (β:=Tp (It.tys its) ⊕ β) (unpackX X its s) fun e X'=>match e with
    | .normal=>packN X X' its fun s=>some (.inl s)
    | e=>outX (k e X')) s
  | .pl a1 its a=>runX Φ H x a1 X fun e X1=>match e with
    | .normal=>packN X1 X1 its fun s=>loopX (fun s=>runX Φ H x a (β:=Tp (It.tys its) ⊕ β) (unpackX X1 its s) fun e X'=>match e with
      | .normal=>packN X1 X' its fun s=>some (.inl s)
      | e=>outX (k e X')) s
    | e=>k e X1
  | _=>none
 | .exit id,_,_,X,k=>k (.exit id) X
 | .ret,_,_,X,k=>k .ret X
 | .skip,_,_,X,k=>k .normal X
 | .drw its,_,_,X,k=>match okD its with
  | true=>drawX Φ H its.length its X [] [] (k .normal)
  | false=>none
 | .alt l,_,_,X,k=>altX (fun its=>match okD its with
  | true=>drawX Φ H its.length its X [] [] (k .normal)
  | false=>none) l
section
variable {P:Program} {N:Nat} {β:Type} {out:β} {Φ:List (Fx P)} {H:List (Nat×Hn)}
theorem know_ok {X:XSt}{S:St}(hX:XOk X) (hS:SimX X S){t:Nat}{b:Bool}{s:Nat}(hl:lk X.env t=some (s,.a (.c (.b b)))):XOk (X.know t b)/\Ext X (X.know t b)/\SimX (X.know t b) S:=by
 obtain⟨a,c⟩:=put_ok hX (d:=some t) (v:=.a (.c (.b b))) trivial
 refine⟨a,c,⟨hS.next,hS.fix, ?_,hS.roots⟩⟩
 intro q s' v hq
 simp only[XSt.know,XSt.put]at hq
 rw[lk_cons]at hq
 split at hq
 ·rename_i e
  simp only at e;subst e
  simp only[Option.some.injEq,Prod.mk.injEq]at hq
  obtain⟨_,rfl⟩:=hq
  exact hS.env _ _ _ hl
 ·exact hS.env q s' v hq
theorem doX_ok {X:XSt}{S:St}(hX:XOk X) (hS:SimX X S){g:GI}{k:XSt->Option β}(h:doX Φ H g X k=some out){K:St->Prop}
  (hk:∀X' S',XOk X'->Ext X X'->SimX X' S'->k X'=some out->K S'):evJ P S (fun x ks roots nx=>K ⟨setEnv g.dst x (killEnv ks S.env),roots,nx,S.fix⟩) g.op:=by
 unfold doX at h
 split at h
 ·rename_i i hop
  rw[hop]
  obtain⟨xv,h,ho,v,hw,hev⟩:=rdX_ok hX hS h
  show ev S (fun v=>K ⟨setEnv g.dst v (killEnv [] S.env),S.roots,S.next,S.fix⟩) i
  refine hev _ ?_
  obtain⟨a,b⟩:=put_ok hX (d:=g.dst) ho
  exact hk _ _ a b (sim_put hS hw) h
 ·rename_i j hop
  rw[hop]
  split at h
  ·rename_i f args
   split at h
   ·rename_i e he
    have hf:=findE_f he
    simp only[Fx.f]at hf
    subst hf
    obtain⟨xv,X',h,h1,h2,h3,h4,v,ks,roots,h5,h6,_,h7⟩:=seeX_ok hX hS h
    refine h7 _ ?_
    obtain⟨a,b⟩:=put_ok h1 (d:=g.dst) h3
    exact hk _ _ a (h2.trans b) (sim_put h6 h5) h
   ·rename_i e he
    have hf:=findE_f he
    simp only[Fx.f]at hf
    subst hf
    obtain⟨xv,X',h,h1,h2,h3,h4,v,ks,roots,h5,h6,_,h7⟩:=callG_ok hX hS h
    refine h7 _ ?_
    obtain⟨a,b⟩:=put_ok h1 (d:=g.dst) h3
    exact hk _ _ a (h2.trans b) (sim_put h6 h5) h
   ·rename_i e he
    have hf:=findE_f he
    simp only[Fx.f]at hf
    subst hf
    obtain⟨xv,X',h,h1,h2,h3,h4,v,ks,roots,h5,h6,_,h7⟩:=curX_ok hX hS h
    refine h7 _ ?_
    obtain⟨a,b⟩:=put_ok h1 (d:=g.dst) h3
    exact hk _ _ a (h2.trans b) (sim_put h6 h5) h
   ·rename_i e he
    have hf:=findE_f he
    simp only[Fx.f]at hf
    subst hf
    obtain⟨xv,X',h,h1,h2,h3,h4,v,ks,roots,h5,h6,_,h7⟩:=callH_ok hX hS h
    refine h7 _ ?_
    obtain⟨a,b⟩:=put_ok h1 (d:=g.dst) h3
    exact hk _ _ a (h2.trans b) (sim_put h6 h5) h
   ·simp at h
  ·rename_i f args
   obtain⟨xv,X',h,h1,h2,h3,h4,v,ks,roots,h5,h6,_,h7⟩:=calvX_ok hX hS h
   refine h7 _ ?_
   obtain⟨a,b⟩:=put_ok h1 (d:=g.dst) h3
   exact hk _ _ a (h2.trans b) (sim_put h6 h5) h
  ·rename_i hno hnv
   obtain⟨xv,X',h,h1,h2,h3,h4,v,ks,roots,h5,h6,_,h7⟩:=wrX_ok hX hS h
   have h8:wr S (fun x ks roots nx=>K ⟨setEnv g.dst x (killEnv ks S.env),roots,nx,S.fix⟩) j:=by
    refine h7 _ ?_
    obtain⟨a,b⟩:=put_ok h1 (d:=g.dst) h3
    exact hk _ _ a (h2.trans b) (sim_put h6 h5) h
   cases j with
   | call f args=>exact (hno f args rfl).elim
   | calv f args=>exact (hnv f args rfl).elim
   | _=>exact h8
theorem stepX_ok {X:XSt}{S:St}(hX:XOk X) (hS:SimX X S){g:GI}{k:XSt->Option β}(h:stepX Φ H g X k=some out){K:St->Prop}
  (hk:∀X' S',XOk X'->Ext X X'->SimX X' S'->k X'=some out->K S'):stepO P g S K:=by
 have skip:∀{X':XSt},XOk X'->Ext X X'->SimX X' S->k (X'.put g.dst (.tp []))=some out->K ⟨setEnv g.dst (.tp []) S.env,S.roots,S.next,S.fix⟩:=by
  intro X' h1 h2 h3 h4
  obtain⟨a,b⟩:=put_ok h1 (d:=g.dst) (v:=.tp []) (fun x hx=>by simp at hx)
  exact hk _ _ a (h2.trans b) (sim_put (v:=.tp []) (xv:=.tp []) h3 trivial) h4
 unfold stepX at h
 unfold stepO
 split at h
 ·rename_i hg
  simp only[hg]
  exact doX_ok hX hS h hk
 ·rename_i t want hg
  simp only[hg]
  split at h
  ·rename_i s b hl
   have hv:get S.env t=some (.a (.c (.lf (.bool b)))):=by
    rcases hS.env t s _ hl with h|⟨y,y1,y2⟩
    ·simp at h
    ·rw[y1,y2.c (by simp [cC])];rfl
   rw[hv]
   simp only
   obtain⟨a,c,d⟩:=know_ok hX hS hl
   have hk':∀X' S',XOk X'->Ext (X.know t b) X'->SimX X' S'->k X'=some out->K S':=fun X' S' h1 h2 h3 h4=>hk X' S' h1 (c.trans h2) h3 h4
   rcases cnd_some h with ⟨rfl,h⟩|⟨rfl,h⟩
   ·cases want with
    | true=>exact⟨fun _=>doX_ok a d h hk',fun e=>(e rfl).elim⟩
    | false=>exact⟨fun e=>by simp at e,fun _=>skip a c d h⟩
   ·cases want with
    | true=>exact⟨fun e=>by simp at e,fun _=>skip a c d h⟩
    | false=>exact⟨fun _=>doX_ok a d h hk',fun e=>(e rfl).elim⟩
  ·rename_i s l hl
   have hv:∃y,get S.env t=some (.tp y):=by
    rcases hS.env t s _ hl with h|⟨y,y1,y2⟩
    ·simp at h
    ·cases y with
     | tp ys=>exact⟨ys,y1⟩
     | _=>exact y2.elim
   obtain⟨ys,hv⟩:=hv
   rw[hv]
   exact skip hX (Ext.refl X) hS h
  ·simp at h
theorem runO_ok:∀{gis:List GI}{X:XSt}{S:St},XOk X->SimX X S->∀{k:XSt->Option β},runO Φ H gis X k=some out->∀{K:St->Prop},
  (∀X' S',XOk X'->Ext X X'->SimX X' S'->k X'=some out->∃T,Le S' T/\K T)->RunL P gis S K
 | [],X,S,hX,hS,k,h,K,hk=>hk X S hX (Ext.refl X) hS h
 | g::l,X,S,hX,hS,k,h,K,hk=>by
  simp only[runO]at h
  refine⟨S,Le.refl S,stepX_ok hX hS h ?_⟩
  intro X' S' h1 h2 h3 h4
  exact runO_ok h1 h3 h4 fun X2 S2 a b c d=>hk X2 S2 a (h2.trans b) c d
theorem joinX_some {σ ρ:Type}{o:Option (σ ⊕ ρ)}{f:σ->Option ρ}{r:ρ}(h:joinX o f=some r):∃z,o=some z/\((∃s,z=.inl s/\f s=some r)\/z=.inr r):=by
 unfold joinX at h
 split at h
 ·rename_i s;exact⟨_,rfl,.inl ⟨s,rfl,h⟩⟩
 ·simp only[Option.some.injEq]at h;subst h;exact⟨_,rfl,.inr rfl⟩
 ·simp at h
theorem runG_ok:∀{l:List (Nat×List It)}{gis:List GI}{X:XSt}{S:St},XOk X->SimX X S->∀{k:XSt->Option β},runG Φ H l gis X k=some out->∀{K:St->Prop},
  (∀X' S',XOk X'->Ext X X'->SimX X' S'->k X'=some out->∃T,Le S' T/\K T)->RunL P gis S K
 | [],gis,X,S,hX,hS,k,h,K,hk=>runO_ok hX hS h hk
 | (n,its)::l,gis,X,S,hX,hS,k,h,K,hk=>by
  simp only[runG]at h
  obtain⟨z,h1,h2⟩:=joinX_some h
  rw[<-List.take_append_drop n gis]
  refine runL_app _ _ _ (runO_ok hX hS h1 ?_)
  intro X' S' a b c d
  obtain⟨s,hs,hle⟩:=packN_ok hX a b c d
  simp only[Option.some.injEq]at hs
  subst hs
  rcases h2 with ⟨s',e,h2⟩|e
  ·simp only[Sum.inl.injEq]at e
   subst e
   obtain⟨u1,u2⟩:=unpack_ok hX its s
   exact⟨_,hle,runG_ok u1 (sim_conc _) h2 fun X2 S2 a' b' c' d'=>hk X2 S2 a' (u2.trans b') c' d'⟩
  ·simp at e
theorem sw_le_post {s:Stm}{S:St}{Q:Exit->St->Prop}(h:Sw P N s S fun e S'=>∃T,Le S' T/\Q e T):Sw P N s S Q:=fun c hc=>vw_le_post (h c hc)
theorem cond_know {X:XSt}{S:St}(hX:XOk X) (hS:SimX X S){c:Opd}{t:Bool}(hc:X.opd c=.a (.c (.b t))):XOk (X.knowO c t)/\Ext X (X.knowO c t)/\SimX (X.knowO c t) S:=by
 cases c with
 | k v=>exact⟨hX,Ext.refl X,hS⟩
 | t n =>
  obtain⟨s,hl⟩:=tmp_lk (X:=X) (t:=n) hc (by simp)
  exact know_ok hX hS hl
theorem ev_loc {X:XSt}{S:St}(hS:SimX X S){i:I}{k:XV->Option β}(h:rdX X i k=some out){K:V->Prop}(hk:ev S K i){R':List (Nat×Root)}{n':Nat}(hl:∀r∈locX X i,get R' r=get S.roots r):ev ⟨S.env,R',n',S.fix⟩ K i:=by
 have free:freeI i=true->ev ⟨S.env,R',n',S.fix⟩ K i:=fun hf=>ev_free (E:=S.env) (R:=S.roots) (n:=S.next) (f:=S.fix) hf hk
 have hop:∀x:Opd,(⟨S.env,R',n',S.fix⟩:St).opd x=S.opd x:=fun x=>by cases x<;>rfl
 cases i with
 | load m x =>
  simp only[rdX]at h
  split at h
  ·rename_i r v p i c t e hx
   split at h
   ·rename_i hv
    have hxS:S.opd x=.a (.c (.pe r p i c)):=by rw[opd_c hS hx (by simp [cC,hv])];simp only[cC,hv]
    have hr:=hl r (by simp [locX,hx])
    have hn:(⟨S.env,R',n',S.fix⟩:St).node r p=S.node r p:=by simp only[St.node,hr]
    cases m<;>(simp only[ev,hop,hxS,hn]at hk ⊢;exact hk)
   ·simp at h
  ·rename_i r c hx
   split at h
   ·rename_i s cs hr0
    have hxS:S.opd x=.a (.c (.pb r c)):=by rw[opd_c hS hx (by simp [cC,hr0])];simp only[cC,hr0]
    have hr:=hl r (by simp [locX,hx])
    have hn:(⟨S.env,R',n',S.fix⟩:St).bcells r=S.bcells r:=by simp only[St.bcells,hr]
    cases m<;>(simp only[ev,hop,hxS,hn]at hk ⊢;exact hk)
   ·simp at h
  ·rename_i b o hx
   have hxS:S.opd x=.a (.c (.lf (.pointer (some ⟨b,o,none⟩)))):=by rw[opd_c hS hx (by simp [cC])];rfl
   cases m<;>(simp only[ev,hop,hxS]at hk ⊢;exact hk)
  ·simp at h
 | b2s x =>
  simp only[rdX]at h
  split at h
  ·rename_i s hx
   have hxS:=opd_c hS hx (by simp [cC])
   simp only[ev,hop,hxS,cC]at hk ⊢
   exact hk
  ·rename_i c hc hx
   have known:cC X.roots c≠.un/\∀r p s lo n,cC X.roots c=.rf r p s lo n->r∈locX X (.b2s x):=by
    unfold winX at h
    split at h
    ·rename_i r
     split at h
     ·rename_i hr;exact⟨by simp [cC,hr],fun r' p s lo n e=>by simp only[cC,hr,C.rf.injEq]at e;rw[<-e.1];simp [locX,hx]⟩
     ·rename_i hr;exact⟨by simp [cC,hr],fun r' p s lo n e=>by simp only[cC,hr,C.rf.injEq]at e;rw[<-e.1];simp [locX,hx]⟩
     ·simp at h
    ·rename_i r lo n
     split at h
     ·rename_i hr;exact⟨by simp [cC,hr],fun r' p s lo n e=>by simp only[cC,hr,C.rf.injEq]at e;rw[<-e.1];simp [locX,hx]⟩
     ·rename_i hr;exact⟨by simp [cC,hr],fun r' p s lo n e=>by simp only[cC,hr,C.rf.injEq]at e;rw[<-e.1];simp [locX,hx]⟩
     ·simp at h
    ·rename_i r v p lo t ws
     split at h
     ·rename_i hv;exact⟨by simp [cC,hv],fun r' p s lo n e=>by simp only[cC,hv,C.rf.injEq]at e;rw[<-e.1];simp [locX,hx]⟩
     ·simp at h
    ·simp at h
   have hxS:=opd_c hS hx known.1
   cases hcc:cC X.roots c with
   | rf r p s lo n =>
    have hr:=hl r (known.2 _ _ _ _ _ hcc)
    have hn:(⟨S.env,R',n',S.fix⟩:St).node r p=S.node r p:=by simp only[St.node,hr]
    rw[hcc]at hxS
    simp only[ev,hop,hxS]at hk ⊢
    split at hk
    ·rename_i he
     simp only[V.a.injEq,A.c.injEq,C.rf.injEq]at he
     obtain⟨rfl,rfl,rfl,rfl,rfl⟩:=he
     simp only[hn];exact hk
    ·rename_i he;simp at he
    ·exact hk.elim
   | _ =>
    rw[hcc]at hxS
    first
     | (simp only[ev,hop,hxS]at hk;done)
     | (simp only[ev,hop,hxS]at hk ⊢;exact hk)
  ·simp at h
 | _=>exact free rfl
theorem doD_ok {X:XSt}{S:St}(hX:XOk X) (hS:SimX X S){g:GI}{k:XV->XSt->Option β}(h:doD Φ H g X k=some out) :
  ∃xv X',k xv X'=some out/\XOk X'/\Ext X X'/\okV X'.roots X'.next X'.stamp xv/\X'.env=X.env/\∃v roots,WkV v (cV X'.roots xv)/\SimX X' ⟨S.env,roots,X'.next,S.fix⟩/\(∀r s x,lk X'.roots r=some (s,x)->s<X.stamp->get roots r=get S.roots r)/\(∀K:KW,K v [] roots X'.next->evJ P S K g.op) /\
   (isRd g=true->X'=X/\roots=S.roots/\∀R' n',(∀r∈locJ X g.op,get R' r=get S.roots r)->evJ P ⟨S.env,R',n',S.fix⟩ (fun x' _ _ _=>x'=v) g.op):=by
 unfold doD at h
 split at h
 ·rename_i i hop
  have h0:=h
  obtain⟨xv,h,ho,v,hw,hev⟩:=rdX_ok hX hS h
  have hS':SimX X ⟨S.env,S.roots,X.next,S.fix⟩:=⟨rfl,hS.fix,hS.env,hS.roots⟩
  refine⟨xv,X,h,hX,Ext.refl X,ho,rfl,v,S.roots,hw,hS',fun _ _ _ _ _=>rfl, ?_, ?_⟩
  ·intro K hK
   rw[hop]
   show ev S (fun v=>K v [] S.roots S.next) i
   refine hev _ ?_
   rw[hS.next];exact hK
  ·intro _
   refine⟨rfl,rfl,fun R' n' hl=>?_⟩
   rw[hop]at hl ⊢
   exact ev_loc hS h0 (hev (fun x'=>x'=v) rfl) hl
 ·rename_i j hop
  have hrd:isRd g=true->False:=by
   intro e
   obtain⟨d,o,gd⟩:=g
   simp only at hop
   subst hop
   simp [isRd]at e
  split at h
  ·rename_i f args
   split at h
   ·rename_i e he
    have hf:=findE_f he
    simp only[Fx.f]at hf
    subst hf
    obtain⟨xv,X',h,h1,h2,h3,h4,v,ks,roots,h5,h6,⟨rfl,h8⟩,h7⟩:=seeX_ok hX hS h
    exact⟨xv,X',h,h1,h2,h3,h4,v,roots,h5,h6,h8,fun K hK=>by rw[hop];exact h7 K hK,fun e=>(hrd e).elim⟩
   ·rename_i e he
    have hf:=findE_f he
    simp only[Fx.f]at hf
    subst hf
    obtain⟨xv,X',h,h1,h2,h3,h4,v,ks,roots,h5,h6,⟨rfl,h8⟩,h7⟩:=callG_ok hX hS h
    exact⟨xv,X',h,h1,h2,h3,h4,v,roots,h5,h6,h8,fun K hK=>by rw[hop];exact h7 K hK,fun e=>(hrd e).elim⟩
   ·rename_i e he
    have hf:=findE_f he
    simp only[Fx.f]at hf
    subst hf
    obtain⟨xv,X',h,h1,h2,h3,h4,v,ks,roots,h5,h6,⟨rfl,h8⟩,h7⟩:=curX_ok hX hS h
    exact⟨xv,X',h,h1,h2,h3,h4,v,roots,h5,h6,h8,fun K hK=>by rw[hop];exact h7 K hK,fun e=>(hrd e).elim⟩
   ·rename_i e he
    have hf:=findE_f he
    simp only[Fx.f]at hf
    subst hf
    obtain⟨xv,X',h,h1,h2,h3,h4,v,ks,roots,h5,h6,⟨rfl,h8⟩,h7⟩:=callH_ok hX hS h
    exact⟨xv,X',h,h1,h2,h3,h4,v,roots,h5,h6,h8,fun K hK=>by rw[hop];exact h7 K hK,fun e=>(hrd e).elim⟩
   ·simp at h
  ·rename_i f args
   obtain⟨xv,X',h,h1,h2,h3,h4,v,ks,roots,h5,h6,⟨rfl,h8⟩,h7⟩:=calvX_ok hX hS h
   exact⟨xv,X',h,h1,h2,h3,h4,v,roots,h5,h6,h8,fun K hK=>by rw[hop];exact h7 K hK,fun e=>(hrd e).elim⟩
  ·rename_i hno hnv
   split at h
   ·rename_i hpl
    obtain⟨xv,X',h,h1,h2,h3,h4,v,ks,roots,h5,h6,h9,h7⟩:=wrX_ok hX hS h
    obtain⟨rfl,h8⟩:=h9 hpl
    refine⟨xv,X',h,h1,h2,h3,h4,v,roots,h5,h6,h8,fun K hK=>?_,fun e=>(hrd e).elim⟩
    rw[hop]
    have h10:=h7 K hK
    cases j with
    | call f args=>exact (hno f args rfl).elim
    | calv f args=>exact (hnv f args rfl).elim
    | _=>exact h10
   ·simp at h
theorem stepD_ok {X:XSt}{S:St}(hX:XOk X) (hS:SimX X S){g:GI}{k:List Nat->XV->XSt->Option β}(h:stepD Φ H g X k=some out) :
  ∃loc xv X',k loc xv X'=some out/\XOk X'/\Ext X X'/\okV X'.roots X'.next X'.stamp xv/\∃v roots,WkV v (cV X'.roots xv)/\SimX X' ⟨S.env,roots,X'.next,S.fix⟩/\(∀r s x,lk X'.roots r=some (s,x)->s<X.stamp->get roots r=get S.roots r)/\(∀K:KW,K v [] roots X'.next->stepV P g S K) /\
   (isRd g=true->X'.roots=X.roots/\roots=S.roots/\X'.next=X.next/\∀R' n',(∀r∈loc,get R' r=get S.roots r)->stepV P g ⟨S.env,R',n',S.fix⟩ (fun x' _ _ _=>x'=v)):=by
 unfold stepD at h
 split at h
 ·rename_i hg
  obtain⟨xv,X',h,h1,h2,h3,h4,v,roots,h5,h6,h7,h8,h9⟩:=doD_ok hX hS h
  refine⟨_,xv,X',h,h1,h2,h3,v,roots,h5,h6,h7,fun K hK=>?_,fun e=>?_⟩
  ·simp only[stepV,hg];exact h8 K hK
  ·obtain⟨rfl,rfl,h10⟩:=h9 e
   exact⟨rfl,rfl,rfl,fun R' n' hl=>by simp only[stepV,hg];exact h10 R' n' hl⟩
 ·rename_i t want hg
  split at h
  ·rename_i s b hl
   have hv:get S.env t=some (.a (.c (.lf (.bool b)))):=by
    rcases hS.env t s _ hl with h|⟨y,y1,y2⟩
    ·simp at h
    ·rw[y1,y2.c (by simp [cC])];rfl
   obtain⟨a,c,d⟩:=know_ok hX hS hl
   have d':SimX (X.know t b) ⟨S.env,S.roots,(X.know t b).next,S.fix⟩:=⟨rfl,d.fix,d.env,d.roots⟩
   have run:∀{loc:List Nat},loc=locJ (X.know t b) g.op->b=want->doD Φ H g (X.know t b) (fun v X'=>k loc v X')=some out->∃loc xv X',k loc xv X'=some out/\XOk X'/\Ext X X'/\okV X'.roots X'.next X'.stamp xv/\∃v roots,WkV v (cV X'.roots xv)/\SimX X' ⟨S.env,roots,X'.next,S.fix⟩/\(∀r s x,lk X'.roots r=some (s,x)->s<X.stamp->get roots r=get S.roots r)/\(∀K:KW,K v [] roots X'.next->stepV P g S K) /\
     (isRd g=true->X'.roots=X.roots/\roots=S.roots/\X'.next=X.next/\∀R' n',(∀r∈loc,get R' r=get S.roots r)->stepV P g ⟨S.env,R',n',S.fix⟩ (fun x' _ _ _=>x'=v)):=by
    intro loc hloc hb h
    obtain⟨xv,X',h,h1,h2,h3,h4,v,roots,h5,h6,h7,h8,h9⟩:=doD_ok a d h
    refine⟨_,xv,X',h,h1,c.trans h2,h3,v,roots,h5,h6,fun r s x hl hs=>h7 r s x hl (Nat.lt_of_lt_of_le hs c.stamp),fun K hK=>?_,fun e=>?_⟩
    ·simp only[stepV,hg,hv]
     exact⟨fun _=>h8 K hK,fun hne=>(hne hb).elim⟩
    ·obtain⟨rfl,rfl,h10⟩:=h9 e
     refine⟨rfl,rfl,rfl,fun R' n' hl=>?_⟩
     simp only[stepV,hg,hv]
     exact⟨fun _=>h10 R' n' (by rw[<-hloc];exact hl),fun hne=>(hne hb).elim⟩
   have skip:b≠want->k [] (.tp []) (X.know t b)=some out->∃loc xv X',k loc xv X'=some out/\XOk X'/\Ext X X'/\okV X'.roots X'.next X'.stamp xv/\∃v roots,WkV v (cV X'.roots xv)/\SimX X' ⟨S.env,roots,X'.next,S.fix⟩/\(∀r s x,lk X'.roots r=some (s,x)->s<X.stamp->get roots r=get S.roots r)/\(∀K:KW,K v [] roots X'.next->stepV P g S K) /\
     (isRd g=true->X'.roots=X.roots/\roots=S.roots/\X'.next=X.next/\∀R' n',(∀r∈loc,get R' r=get S.roots r)->stepV P g ⟨S.env,R',n',S.fix⟩ (fun x' _ _ _=>x'=v)):=by
    intro hb h
    have hnx:(X.know t b).next=S.next:=d.next.symm
    refine⟨[],.tp [],_,h,a,c,(fun x hx=>by simp at hx),.tp [],S.roots,trivial,d',fun r s x hl hs=>rfl,fun K hK=>?_,fun e=>⟨rfl,rfl,rfl,fun R' n' hl=>?_⟩⟩
    ·simp only[stepV,hg,hv]
     exact⟨fun e=>(hb e).elim,fun _=>by rw[<-hnx];exact hK⟩
    ·simp only[stepV,hg,hv]
     exact⟨fun e=>(hb e).elim,fun _=>trivial⟩
   rcases cnd_some h with ⟨rfl,h⟩|⟨rfl,h⟩
   ·cases want with
    | true=>exact run rfl rfl h
    | false=>exact skip (by simp) h
   ·cases want with
    | true=>exact skip (by simp) h
    | false=>exact run rfl rfl h
  ·rename_i s l hl
   have hv:∃y,get S.env t=some (.tp y):=by
    rcases hS.env t s _ hl with h|⟨y,y1,y2⟩
    ·simp at h
    ·cases y with
     | tp ys=>exact⟨ys,y1⟩
     | _=>exact y2.elim
   obtain⟨ys,hv⟩:=hv
   have d':SimX X ⟨S.env,S.roots,X.next,S.fix⟩:=⟨rfl,hS.fix,hS.env,hS.roots⟩
   refine⟨[],.tp [],X,h,hX,Ext.refl X,(fun x hx=>by simp at hx),.tp [],S.roots,trivial,d',fun r s x hl hs=>rfl,fun K hK=>?_,fun e=>⟨rfl,rfl,rfl,fun R' n' hl=>?_⟩⟩
   ·simp only[stepV,hg,hv]
    rw[hS.next];exact hK
   ·simp only[stepV,hg,hv]
  ·simp at h
def HRel (R:XRs) (RV:List (Nat×Root)) (mR:XRs) (m:Mem):Prop:=∀r s x x',lk mR r=some (s,x)->lk R r=some (s,x')->get m.1 r=get RV r
theorem sameL_ok {R R':XRs}:∀{loc:List Nat},sameL R' (stampsX R loc)=true->isLk R loc=true->∀r∈loc,∃s x x',lk R' r=some (s,x)/\lk R r=some (s,x')
 | [],_,_,r,hr=>by simp at hr
 | q::l,h,hi,r,hr=>by
  simp only[isLk]at hi
  split at hi
  ·rename_i e hq
   obtain⟨s,x'⟩:=e
   simp only[stampsX,hq,sameL,Bool.and_eq_true]at h
   rcases List.mem_cons.1 hr with rfl|hr
   ·obtain⟨x,hx⟩:=verOk_lk h.1
    exact⟨s,x,x',hx,hq⟩
   ·exact sameL_ok h.2 hi r hr
  ·simp at hi
theorem sameH_ok {l:List (Nat×Nat)}:∀{h:List XRs},sameH l h=true->∀R∈h,sameL R l=true
 | [],_,R,hR=>by simp at hR
 | R::h,hs,R',hR=>by
  simp only[sameH,Bool.and_eq_true]at hs
  rcases List.mem_cons.1 hR with rfl|hR
  ·exact hs.1
  ·exact sameH_ok hs.2 R' hR
theorem sameP_ok {R:XRs}{n:Nat}:∀{ps:XPend},sameP R n ps=true->∀p∈ps,n<=p.2->sameL R p.1=true
 | [],_,p,hp,_=>by simp at hp
 | (l,hi)::ps,h,p,hp,hn=>by
  simp only[sameP,Bool.and_eq_true]at h
  rcases List.mem_cons.1 hp with rfl|hp
  ·have:=h.1
   rw[show Nat.ble n hi=true from Nat.ble_eq_true_of_le hn]at this
   exact this
  ·exact sameP_ok h.2 p hp hn
def PRel (P:Program) (fix:Nat) (R:XRs) (RV:List (Nat×Root)) (p:Pend) (q:List (Nat×Nat)×Nat):Prop :=
 p.hi=q.2/\∃vals:List (Nat×Option Root),(∀R' n',(∀e∈vals,get R' e.1=e.2)->stepV P p.gi ⟨p.E,R',n',fix⟩ fun x' _ _ _=>x'=p.x) /\
  ∀e∈vals,∃s,(e.1,s)∈q.1/\∀x,lk R e.1=some (s,x)->get RV e.1=e.2
theorem sameL_mem {R:XRs}:∀{l:List (Nat×Nat)},sameL R l=true->∀p∈l,∃x,lk R p.1=some (p.2,x)
 | [],_,p,hp=>by simp at hp
 | (r,s)::l,h,p,hp=>by
  simp only[sameL,Bool.and_eq_true]at h
  rcases List.mem_cons.1 hp with rfl|hp
  ·exact verOk_lk h.1
  ·exact sameL_mem h.2 p hp
theorem stamps_mem {R:XRs}:∀{loc:List Nat}{r s:Nat}{x:XR},r∈loc->lk R r=some (s,x)->(r,s)∈stampsX R loc
 | [],r,s,x,h,_=>by simp at h
 | q::l,r,s,x,h,hl=>by
  simp only[stampsX]
  rcases List.mem_cons.1 h with rfl|h
  ·rw[hl];exact List.mem_cons_self
  ·split
   ·exact List.mem_cons_of_mem _ (stamps_mem h hl)
   ·exact stamps_mem h hl
theorem noPend_ok {m:Nat}:∀{l:XPend},noPend m l=true->∀q∈l,q.2<=m
 | [],_,q,h=>by cases h
 | (_,hi)::l,h,q,hq=>by
  simp only[noPend,Bool.and_eq_true]at h
  rcases List.mem_cons.1 hq with rfl|hq
  ·exact Nat.le_of_ble_eq_true h.1
  ·exact noPend_ok h.2 q hq
theorem stepV_of_O {S:St}{g:GI}{K:St->Prop}(h:stepO P g S K):stepV P g S fun x ks r n=>K ⟨setEnv g.dst x (killEnv ks S.env),r,n,S.fix⟩:=by
 obtain⟨d,op,gd⟩:=g
 cases gd with
 | none=>exact h
 | some tw =>
  obtain⟨t,want⟩:=tw
  unfold stepO at h
  unfold stepV
  try simp only at h ⊢
  generalize get S.env t=o at h ⊢
  split at h
  ·exact⟨h.1,fun e=>h.2 e⟩
  ·exact h
  ·exact h.elim
theorem drawX_ok {nI:Nat}:∀(l:List DI){X:XSt}{S:St}{hist:List XRs}{histV:List Mem}{pend:XPend}{pendV:List Pend}{k:XSt->Option β},XOk X->SimX X S->drawX Φ H nI l X hist pend k=some out->(∀it∈l,it.w=!isRd it.gi) ->
  All2 (fun mR m=>HRel X.roots S.roots mR m/\∀r s x,lk mR r=some (s,x)->s<X.stamp) hist histV->(∀p∈pendV,∃q∈pend,PRel P S.fix X.roots S.roots p q)->(∀q∈pend,∀e∈q.1,e.2<X.stamp)->∀{K:St->Prop},
  (∀X' S',XOk X'->Ext X X'->SimX X' S'->k X'=some out->K S')->runD P nI S.fix l S.env ((S.roots,S.next)::histV) pendV K
 | [],X,S,hist,histV,pend,pendV,k,hX,hS,h,_,_,_,_,K,hk=>hk X S hX (Ext.refl X) hS h
 | it::l,X,S,hist,histV,pend,pendV,k,hX,hS,h,hw,hH,hP,hPs,K,hk=>by
  simp only[drawX]at h
  have hlen:=hH.length
  split at h
  case h_1 =>
   rename_i hlo
   unfold lastOk at hlo
   split at hlo
   case h_2=>cases hlo
   simp only[Bool.and_eq_true]at hlo
   obtain⟨hwt,hanc,hnp⟩:=hlo
   have hst:=stepX_ok (P:=P) hX hS h (K:=K) hk
   simp only[runD]
   refine stepV_mono (stepV_of_O hst) ?_
   intro x ks r n hK
   rw[if_pos hwt]
   refine⟨fun p hp hle=>?_,.inr ⟨trivial,hanc,hK⟩⟩
   obtain⟨q,hq,hpq,_⟩:=hP p hp
   have:=noPend_ok hnp q hq
   exfalso
   rw[hlen]at this
   omega
  obtain⟨loc,xv,X',h,h1,h2,h3,v,roots,h5,h6,h7,h8,h9⟩:=stepD_ok hX hS h
  have hwit:=hw it List.mem_cons_self
  obtain⟨a,b⟩:=put_ok h1 (d:=it.gi.dst) h3
  have hsim:=sim_put (d:=it.gi.dst) h6 h5
  have hroots:(X'.put it.gi.dst xv).roots=X'.roots:=by cases it.gi.dst<;>rfl
  have hstamp:X'.stamp<=(X'.put it.gi.dst xv).stamp:=b.stamp
  simp only[runD]
  split at h
  ·-- it writes
   rename_i hwt
   split at h
   ·rename_i hsp
    refine h8 _ ?_
    simp only[hwt,if_true]
    refine⟨?_,.inl ⟨trivial, ?_⟩⟩
    ·intro p hp hhi
     obtain⟨q,hq,hpq,vals,hv1,hv2⟩:=hP p hp
     have hsl:=sameP_ok hsp q hq (by rw[hlen,<-hpq];exact hhi)
     refine hv1 roots X'.next fun e he=>?_
     obtain⟨s,hs1,hs2⟩:=hv2 e he
     obtain⟨x,hx⟩:=sameL_mem hsl _ hs1
     have hlt:=hPs q hq _ hs1
     simp only at hx hlt
     rw[h7 _ _ _ hx hlt]
     exact hs2 x (h2.roots _ _ _ hx hlt)
    ·refine drawX_ok l (hist:=X.roots::hist) (histV:=(S.roots,S.next)::histV) (pend:=pend) a hsim h (fun it hit=>hw it (List.mem_cons_of_mem _ hit)) ⟨⟨?_, ?_⟩, ?_⟩ ?_ ?_ fun X2 S2 q1 q2 q3 q4=>hk X2 S2 q1 ((h2.trans b).trans q2) q3 q4
     ·intro r s x x' hl hl'
      rw[hroots]at hl'
      exact (h7 r s x' hl' (hX.ids r s x hl).2).symm
     ·intro r s x hl
      exact Nat.lt_of_lt_of_le (hX.ids r s x hl).2 (Nat.le_trans h2.stamp hstamp)
     ·refine hH.mono ?_
      intro mR m ⟨g1,g2⟩
      refine⟨?_,fun r s x hl=>Nat.lt_of_lt_of_le (g2 r s x hl) (Nat.le_trans h2.stamp hstamp)⟩
      intro r s x x' hl hl'
      rw[hroots]at hl'
      have hlt:=g2 r s x hl
      show get m.1 r=get roots r
      rw[h7 r s x' hl' hlt]
      exact g1 r s x x' hl (h2.roots r s x' hl' hlt)
     ·intro p hp
      obtain⟨q,hq,hpq,vals,hv1,hv2⟩:=hP p hp
      refine⟨q,hq,hpq,vals,hv1,fun e he=>?_⟩
      obtain⟨s,hs1,hs2⟩:=hv2 e he
      refine⟨s,hs1,fun x hx=>?_⟩
      rw[hroots]at hx
      have hlt:=hPs q hq _ hs1
      simp only at hlt
      show get roots e.1=e.2
      rw[h7 _ _ _ hx hlt]
      exact hs2 x (h2.roots _ _ _ hx hlt)
     ·intro q hq e he
      exact Nat.lt_of_lt_of_le (hPs q hq e he) (Nat.le_trans h2.stamp hstamp)
   ·simp at h
  ·-- it reads
   rename_i hwt
   have hrd:isRd it.gi=true:=by rw[hwt]at hwit;simpa using hwit.symm
   obtain⟨e1,rfl,e3,h10⟩:=h9 hrd
   split at h
   ·rename_i hc
    simp only[Bool.and_eq_true]at hc
    obtain⟨hc1,hc2⟩:=hc
    have hnx:X'.next=S.next:=e3.trans hS.next.symm
    rw[hnx]at h8
    have next:∀pendV',(∀p∈pendV',p∈pendV\/(p=⟨it.gi,S.env,v,it.hi⟩/\hist.length<it.hi))->runD P nI S.fix l (setEnv it.gi.dst v S.env) ((S.roots,S.next)::histV) pendV' K:=by
     intro pendV' hpv
     have hS2:SimX (X'.put it.gi.dst xv) ⟨setEnv it.gi.dst v S.env,S.roots,S.next,S.fix⟩:=by rw[<-hnx];exact hsim
     have base:∀pend',drawX Φ H nI l (X'.put it.gi.dst xv) hist pend' k=some out->(∀p∈pendV',∃q∈pend',PRel P S.fix (X'.put it.gi.dst xv).roots S.roots p q)->(∀q∈pend',∀e∈q.1,e.2<(X'.put it.gi.dst xv).stamp)->runD P nI S.fix l (setEnv it.gi.dst v S.env) ((S.roots,S.next)::histV) pendV' K:=by
      intro pend' hd g1 g2
      refine drawX_ok l (S:=⟨setEnv it.gi.dst v S.env,S.roots,S.next,S.fix⟩) a hS2 hd (fun it hit=>hw it (List.mem_cons_of_mem _ hit)) (hH.mono ?_) g1 g2 fun X2 S2 q1 q2 q3 q4=>hk X2 S2 q1 ((h2.trans b).trans q2) q3 q4
      intro mR m ⟨g1,g2⟩
      refine⟨?_,fun r s x hl=>Nat.lt_of_lt_of_le (g2 r s x hl) (Nat.le_trans h2.stamp hstamp)⟩
      rw[hroots,e1];exact g1
     have old:∀p∈pendV,∃q∈pend,PRel P S.fix (X'.put it.gi.dst xv).roots S.roots p q:=by
      rw[hroots,e1];exact hP
     have olds:∀q∈pend,∀e∈q.1,e.2<(X'.put it.gi.dst xv).stamp:=fun q hq e he=>Nat.lt_of_lt_of_le (hPs q hq e he) (Nat.le_trans h2.stamp hstamp)
     split at h
     ·refine base _ h ?_ ?_
      ·intro p hp
       rcases hpv p hp with hp|⟨rfl,_⟩
       ·obtain⟨q,hq,hr⟩:=old p hp
        exact⟨q,List.mem_cons_of_mem _ hq,hr⟩
       ·refine⟨_,List.mem_cons_self,rfl,loc.map fun r=>(r,get S.roots r), ?_, ?_⟩
        ·intro R' n' hl
         exact h10 R' n' fun r hr=>hl (r,get S.roots r) (List.mem_map.2 ⟨r,hr,rfl⟩)
        ·intro e he
         obtain⟨r,hr,rfl⟩:=List.mem_map.1 he
         have:∃s x,lk X'.roots r=some (s,x):=by
          have key:∀(l:List Nat),isLk X'.roots l=true->r∈l->∃s x,lk X'.roots r=some (s,x):=by
           intro l
           induction l with
           | nil=>intro _ h;simp at h
           | cons q l ih =>
            intro h hm
            simp only[isLk]at h
            split at h
            ·rename_i e hq
             rcases List.mem_cons.1 hm with rfl|hm
             ·exact⟨e.1,e.2,hq⟩
             ·exact ih h hm
            ·simp at h
          exact key loc hc1 hr
         obtain⟨s,x,hl⟩:=this
         exact⟨s,stamps_mem hr hl,fun _ _=>rfl⟩
      ·intro q hq e he
       rcases List.mem_cons.1 hq with rfl|hq
       ·have key:∀(l:List Nat) (e:Nat×Nat),e∈stampsX X'.roots l->e.2<X'.stamp:=by
         intro l
         induction l with
         | nil=>intro e h;simp [stampsX]at h
         | cons q l ih =>
          intro e h
          simp only[stampsX]at h
          split at h
          ·rename_i s x hq
           rcases List.mem_cons.1 h with rfl|h
           ·exact (h1.ids _ _ _ hq).2
           ·exact ih e h
          ·exact ih e h
        exact Nat.lt_of_lt_of_le (key loc e he) hstamp
       ·exact olds q hq e he
     ·rename_i hlt
      refine base _ h ?_ olds
      intro p hp
      rcases hpv p hp with hp|⟨_,hlt'⟩
      ·exact old p hp
      ·exfalso
       have:Nat.blt hist.length it.hi=true:=by simpa [Nat.blt_eq] using hlt'
       rw[this]at hlt;simp at hlt
    have inHist:∀mm∈histV.take (histV.length-it.lo),∀r∈loc,get mm.1 r=get S.roots r:=by
     intro mm hmm r hr
     rw[<-hlen]at hmm
     obtain⟨i,hi,hget⟩:=List.getElem_of_mem hmm
     have hi2:i<histV.length:=by simp at hi;omega
     have hi3:i<hist.length:=by rw[hlen];exact hi2
     obtain⟨m',hm1,hm2⟩:=hH.get i hist[i] (List.getElem?_eq_getElem hi3)
     have hmm':m'=mm:=by
      rw[List.getElem_take]at hget
      rw[List.getElem?_eq_getElem hi2]at hm1
      simp only[Option.some.injEq]at hm1
      rw[<-hm1,hget]
     subst hmm'
     have hin:hist[i]∈hist.take (hist.length-it.lo):=by
      rw[List.mem_iff_getElem]
      simp only[List.length_take]at hi
      exact⟨i,by simp;omega,by simp⟩
     obtain⟨s,x,x',g1,g2⟩:=sameL_ok (sameH_ok hc2 _ hin) hc1 r hr
     rw[e1]at g2
     exact hm2.1 r s x x' g1 g2
    refine h8 _ ?_
    simp only[hwt,Bool.false_eq_true,if_false]
    split
    ·exact next pendV fun p hp=>.inl hp
    ·refine⟨fun mm hmm=>h10 mm.1 mm.2 (inHist mm hmm), ?_⟩
     split
     ·rename_i hlt
      refine next _ fun p hp=>?_
      rcases List.mem_cons.1 hp with rfl|hp
      ·exact .inr ⟨rfl,by rw[hlen];exact hlt⟩
      ·exact .inl hp
     ·exact next pendV fun p hp=>.inl hp
   ·simp at h
theorem mkIts_w0 (ws:List Bool) (ancs:List (List Nat)):∀(gis:List GI) (i:Nat),(∀(j:Nat) (g:GI),gis[j]? = some g->ws.getD (i+j) false=!isRd g)->∀it∈mkIts ws ancs i gis,it.w=!isRd it.gi
 | [],i,_,it,h=>by simp [mkIts]at h
 | g::l,i,hw,it,h=>by
  simp only[mkIts,List.mem_cons]at h
  rcases h with rfl|h
  ·exact hw 0 g rfl
  ·refine mkIts_w0 ws ancs l (i+1) (fun j g hg=>?_) it h
   rw[show i+1+j=i+(j+1) by omega]
   exact hw (j+1) g (by simpa using hg)
theorem mkIts_w {ancs:List (List Nat)}(gis:List GI):∀it∈mkIts (gis.map fun g=>!isRd g) ancs 0 gis,it.w=!isRd it.gi:=by
 refine mkIts_w0 _ _ gis 0 fun j g hg=>?_
 rw[Nat.zero_add,List.getD_eq_getElem?_getD,List.getElem?_map,hg]
 rfl
theorem runX_ok (hm:P.follows .mixedOrders=true):∀(s:Stm) (an:An){β:Type}{out:β}{X:XSt}{S:St}{k:Exit->XSt->Option β},XOk X->SimX X S->runX Φ H s an X k=some out->∀{Q:Exit->St->Prop},
  (∀e X' S',XOk X'->Ext X X'->SimX X' S'->k e X'=some out->Q e S')->Sw P N s S Q
 | .reg gis,an,β,out,X,S,k,hX,hS,h,Q,hQ=>by
  have h2:∃l,runG Φ H l gis X (k .normal)=some out:=by
   cases an with
   | rg l=>exact⟨l,h⟩
   | _=>exact⟨[],h⟩
  obtain⟨l,h2⟩:=h2
  exact sw_regL (runG_ok hX hS h2 fun X' S' a b c d=>⟨S',Le.refl S',hQ _ X' S' a b c d⟩)
 | .seq x y,an,β,out,X,S,k,hX,hS,h,Q,hQ=>by
  have plain:∀(a b:An),(runX Φ H x a X fun e X'=>match e with|.normal=>runX Φ H y b X' k|e=>k e X')=some out->Sw P N (.seq x y) S Q:=by
   intro a b h
   refine sw_seq (runX_ok hm x a hX hS h ?_)
   intro e X' S' h1 h2 h3 h4
   cases e with
   | normal=>exact runX_ok hm y b h1 h3 h4 fun e X2 S2 a' b' c' d'=>hQ e X2 S2 a' (h2.trans b') c' d'
   | _=>exact hQ _ X' S' h1 h2 h3 h4
  cases an with
  | sq j a b =>
   cases j with
   | none=>exact plain a b h
   | some its =>
    simp only[runX]at h
    obtain⟨z,h1,h2⟩:=joinX_some h
    refine sw_seq (sw_le_post (runX_ok hm x a hX hS h1 ?_))
    intro e X' S' g1 g2 g3 g4
    cases e with
    | normal =>
     obtain⟨s,hs,hle⟩:=packN_ok hX g1 g2 g3 g4
     simp only[Option.some.injEq]at hs
     subst hs
     rcases h2 with ⟨s',e,h2⟩|e
     ·simp only[Sum.inl.injEq]at e
      subst e
      obtain⟨u1,u2⟩:=unpack_ok hX its s
      exact⟨_,hle,runX_ok hm y b u1 (sim_conc _) h2 fun e X2 S2 a' b' c' d'=>hQ e X2 S2 a' (u2.trans b') c' d'⟩
     ·simp at e
    | _ =>
     obtain⟨r,hr,g5⟩:=outX_some g4
     rcases h2 with ⟨s',e,h2⟩|e
     ·rw[hr]at e;simp at e
     ·rw[hr]at e
      simp only[Sum.inr.injEq]at e
      subst e
      exact⟨S',Le.refl S',hQ _ X' S' g1 g2 g3 g5⟩
  | _=>exact plain .d .d h
 | .cond c x y,an,β,out,X,S,k,hX,hS,h,Q,hQ=>by
  simp only[runX]at h
  split at h
  ·rename_i t hc
   have hb:tv (S.opd c)=some t:=by rw[opd_c hS hc (by simp [cC])];rfl
   have key:∃a b,cnd t (runX Φ H x a (X.knowO c true) k) (runX Φ H y b (X.knowO c false) k)=some out:=by
    split at h
    ·rename_i a b;exact⟨a,b,h⟩
    ·exact⟨.d,.d,h⟩
   obtain⟨a,b,h⟩:=key
   rcases cnd_some h with ⟨rfl,h⟩|⟨rfl,h⟩
   ·obtain⟨a1,a2,a3⟩:=cond_know hX hS hc
    exact sw_cond hb (fun _=>runX_ok hm x a a1 a3 h fun e X' S' g1 g2 g3 g4=>hQ e X' S' g1 (a2.trans g2) g3 g4) (fun e=>by simp at e)
   ·obtain⟨a1,a2,a3⟩:=cond_know hX hS hc
    exact sw_cond hb (fun e=>by simp at e) (fun _=>runX_ok hm y b a1 a3 h fun e X' S' g1 g2 g3 g4=>hQ e X' S' g1 (a2.trans g2) g3 g4)
  ·simp at h
 | .block id x,an,β,out,X,S,k,hX,hS,h,Q,hQ=>by
  simp only[runX]at h
  refine sw_block (runX_ok hm x _ hX hS h ?_)
  intro e X' S' g1 g2 g3 g4
  cases e with
  | exit id' =>
   simp only at g4
   simp only[blockQ]
   split at g4
   ·rename_i hb
    rw[if_pos (Nat.eq_of_beq_eq_true hb)]
    exact hQ _ X' S' g1 g2 g3 g4
   ·rename_i hb
    rw[if_neg (Nat.ne_of_beq_eq_false hb)]
    exact hQ _ X' S' g1 g2 g3 g4
  | _=>exact hQ _ X' S' g1 g2 g3 g4
 | .loop x,an,β,out,X,S,k,hX,hS,h,Q,hQ=>by
  have key:∀(its:List It) (a:An) (X0:XSt) (S0:St),XOk X0->Ext X X0->SimX X0 S0->(packN X0 X0 its fun s=>loopX (fun s=>runX Φ H x a (β:=Tp (It.tys its) ⊕ β) (unpackX X0 its s) fun e X'=>match e with
    | .normal=>packN X0 X' its fun s=>some (.inl s)
    | e=>outX (k e X')) s)=some out->SwL P N x S0 Q:=by
   intro its a X0 S0 hX0 hE0 hS0 h
   obtain⟨s0,h,hle⟩:=packN_ok hX0 hX0 (Ext.refl X0) hS0 h
   obtain⟨n,hn⟩:=loopX_some h
   refine swl_inv (fun m T=>∃s,iterX (fun s=>runX Φ H x a (β:=Tp (It.tys its) ⊕ β) (unpackX X0 its s) fun e X'=>match e with
    | .normal=>packN X0 X' its fun s=>some (.inl s)
    | e=>outX (k e X')) m s=some out/\T=concS (unpackX X0 its s)) n ⟨_,⟨s0,hn,rfl⟩,hle⟩ ?_
   rintro m T ⟨s,hs,rfl⟩
   cases m with
   | zero=>simp [iterX]at hs
   | succ m =>
    simp only[iterX]at hs
    obtain⟨u1,u2⟩:=unpack_ok hX0 its s
    have hz:∃z,(runX Φ H x a (β:=Tp (It.tys its) ⊕ β) (unpackX X0 its s) fun e X'=>match e with
     | .normal=>packN X0 X' its fun s=>some (.inl s)
     | e=>outX (k e X'))=some z:=by
     split at hs
     ·exact⟨_,by assumption⟩
     ·exact⟨_,by assumption⟩
     ·simp at hs
    obtain⟨z,hz⟩:=hz
    rw[hz]at hs
    refine runX_ok hm x a u1 (sim_conc _) hz ?_
    intro e X' S' g1 g2 g3 g4
    cases e with
    | normal =>
     obtain⟨s',hs',hle'⟩:=packN_ok hX0 g1 (u2.trans g2) g3 g4
     simp only[Option.some.injEq]at hs'
     subst hs'
     simp only at hs
     exact⟨m,_,Nat.lt_succ_self m,⟨s',hs,rfl⟩,hle'⟩
    | _ =>
     obtain⟨r,hr,g5⟩:=outX_some g4
     subst hr
     simp only[Option.some.injEq]at hs
     subst hs
     exact hQ _ X' S' g1 (hE0.trans (u2.trans g2)) g3 g5
  cases an with
  | lp its a =>
   simp only[runX]at h
   exact sw_of_l (key its a X S hX (Ext.refl X) hS h)
  | pl a1 its a =>
   simp only[runX]at h
   refine sw_of_l (swl_round (runX_ok hm x a1 hX hS h ?_))
   intro e X' S' g1 g2 g3 g4
   cases e with
   | normal=>exact key its a X' S' g1 g2 g3 g4
   | _=>exact hQ _ X' S' g1 g2 g3 g4
  | _=>simp [runX]at h
 | .exit id,an,β,out,X,S,k,hX,hS,h,Q,hQ=>sw_exit (hQ _ X S hX (Ext.refl X) hS h)
 | .ret,an,β,out,X,S,k,hX,hS,h,Q,hQ=>sw_ret (hQ _ X S hX (Ext.refl X) hS h)
 | .skip,an,β,out,X,S,k,hX,hS,h,Q,hQ=>sw_skip (hQ _ X S hX (Ext.refl X) hS h)
 | .drw its,an,β,out,X,S,k,hX,hS,h,Q,hQ=>by
  simp only[runX]at h
  split at h
  ·rename_i hok
   intro c hc
   have hw:∀it∈its,it.w=!isRd it.gi:=by
    cases c with
    | region id ops d =>
     cases d with
     | false=>simp [trC]at hc
     | true =>
      have hc:=trReg_drw (show trReg P N ops=some (.drw its) by simpa only[trC] using hc)
      simp only[trDraw,Option.bind_eq_bind,Option.bind_eq_some_iff]at hc
      obtain⟨gis,hgis,hg⟩:=hc
      split at hg
      ·simp only[Option.some.injEq]at hg
       subst hg
       exact mkIts_w gis
      ·simp at hg
    | seq a b=>simp [trC,Option.bind_eq_bind,Option.bind_eq_some_iff]at hc
    | cond c a b=>simp [trC,Option.bind_eq_bind,Option.bind_eq_some_iff]at hc
    | _=>simp [trC]at hc
   have hr:=drawX_ok (P:=P) (nI:=its.length) (histV:=[]) (pendV:=[]) its hX hS h hw trivial (fun p hp=>by simp at hp) (fun q hq=>by simp at hq) (hQ .normal)
   have hfin:Sw P N (.drw its) S Q:=by
    obtain⟨E,R,n,f⟩:=S
    exact sw_go hm hok hr
   exact hfin c hc
  ·simp at h
 | .alt l,an,β,out,X,S,k,hX,hS,h,Q,hQ=>by
  simp only[runX]at h
  have hall:=altX_some h
  intro c hc
  cases c with
  | region id ops d =>
   cases d with
   | false=>simp [trC]at hc
   | true =>
    have hl:=trReg_alt (show trReg P N ops=some (.alt l) by simpa only[trC] using hc)
    have hfin:Sw P N (.alt l) S Q:=by
     refine sw_runs hm fun its hi=>?_
     have hx:=hall its hi
     split at hx
     case h_2=>cases hx
     rename_i hok
     obtain⟨ops',_,hg⟩:=mapO_of hl its hi
     have hw:∀it∈its,it.w=!isRd it.gi:=by
      simp only[trDraw,Option.bind_eq_bind,Option.bind_eq_some_iff]at hg
      obtain⟨gis,hgis,hg⟩:=hg
      split at hg
      ·simp only[Option.some.injEq]at hg
       subst hg
       exact mkIts_w gis
      ·simp at hg
     exact⟨hok,drawX_ok (P:=P) (nI:=its.length) (histV:=[]) (pendV:=[]) its hX hS hx hw trivial (fun p hp=>by simp at hp) (fun q hq=>by simp at hq) (hQ .normal)⟩
    exact hfin _ hc
  | seq a b=>simp [trC,Option.bind_eq_bind,Option.bind_eq_some_iff]at hc
  | cond c a b=>simp [trC,Option.bind_eq_bind,Option.bind_eq_some_iff]at hc
  | _=>simp [trC]at hc
end
end Go.Vs
namespace Go.Vs
variable [Glb]
def lendXs:List XD->XSt->List XC×XSt
 | [],X=>([],X)
 | .lf c::l,X=>(leafC c::(lendXs l X).1,(lendXs l X).2)
 | .sl t xs::l,X=>(.rw X.next::(lendXs l (X.newR (.im t xs))).1,(lendXs l (X.newR (.im t xs))).2)
def envA (s:Nat):Nat->List XA->List (Nat×Nat×XV)
 | _,[]=>[]
 | i,a::l=>(i,s,.a a)::envA s (i+1) l
def empX:XSt:=⟨[],[],0,0,0⟩
def inX (args:List (Bool×Ty)) (x:Tp (args.map (·.2))):XSt :=
 ⟨envA (lendXs (resCells args x) empX).2.stamp 0 (resAs args (lendXs (resCells args x) empX).1),(lendXs (resCells args x) empX).2.roots,(lendXs (resCells args x) empX).2.next,(lendXs (resCells args x) empX).2.stamp+1,0⟩
def okArgs:List (Bool×Ty)->Bool
 | []=>true
 | (ag,t)::l=>(ag||Nat.beq t.n 1)&&okArgs l
theorem lendXs_ok:∀(l:List XD){X:XSt}{E:List (Nat×V)}{R:List (Nat×Root)}{f a:Nat},XOk X->SimX X ⟨E,R,X.next,f⟩ ->
  XOk (lendXs l X).2/\(lendXs l X).2.env=X.env/\(lendXs l X).2.fix=X.fix/\X.next<=(lendXs l X).2.next/\(lendXs l X).2.next=(inCs ((l.map encD).map fun d=>(M.rd,d)) (a,X.next)).2.2.2/\SimX (lendXs l X).2 ⟨E,(inCs ((l.map encD).map fun d=>(M.rd,d)) (a,X.next)).2.1++R,(lendXs l X).2.next,f⟩ /\
  All2 WkC (inCs ((l.map encD).map fun d=>(M.rd,d)) (a,X.next)).1 ((lendXs l X).1.map (cC (lendXs l X).2.roots))/\(∀c∈(lendXs l X).1,okC (lendXs l X).2.roots (lendXs l X).2.next (lendXs l X).2.stamp c) /\
  (∀q,q<X.next->lk (lendXs l X).2.roots q=lk X.roots q)/\(∀q y,get (inCs ((l.map encD).map fun d=>(M.rd,d)) (a,X.next)).2.1 q=some y->X.next<=q)
 | [],X,E,R,f,a,hX,hS=>⟨hX,rfl,rfl,Nat.le_refl _,rfl,hS,trivial,by simp [lendXs],fun q _=>rfl,fun q y h=>by simp [inCs,get]at h⟩
 | .lf c::l,X,E,R,f,a,hX,hS=>by
  obtain⟨a1,e,fx,nl,n,s,w,o,k,g⟩:=lendXs_ok (a:=a) l hX hS
  have hd:encD (.lf c)=.hole\/∃v,encD (.lf c)=.lf v:=by cases c<;>first|exact .inl rfl|exact .inr ⟨_,rfl⟩
  have e1:(inCs (((XD.lf c::l).map encD).map fun d=>(M.rd,d)) (a,X.next)).2=(inCs ((l.map encD).map fun d=>(M.rd,d)) (a,X.next)).2:=by
   rcases hd with h|⟨v,h⟩<;>simp only[List.map_cons,inCs,h,inC,List.nil_append]
  refine⟨a1,e,fx,nl, ?_, ?_, ?_, ?_,k, ?_⟩
  ·rw[e1];exact n
  ·rw[e1];exact s
  ·cases c<;>first
    | exact⟨WkC.refl _,w⟩
    | exact⟨.inr rfl,w⟩
  ·intro c' hc
   simp only[lendXs,List.mem_cons]at hc
   rcases hc with rfl|hc
   ·cases c<;>trivial
   ·exact o c' hc
  ·intro q y hq;rw[e1]at hq;exact g q y hq
 | .sl t xs::l,X,E,R,f,a,hX,hS=>by
  obtain⟨a1,b1,s1⟩:=newR_ok (x:=.im t xs) (y:=.im t.n (xs.map (encT t))) hX hS (fun cs h=>by simp at h) ⟨_,rfl,rfl,rfl⟩
  obtain⟨a2,e,fx,nl,n,s,w,o,k,g⟩:=lendXs_ok (a:=a) l a1 s1
  have e2:(X.newR (.im t xs)).next=X.next+1:=rfl
  have e1:(inCs (((XD.sl t xs::l).map encD).map fun d=>(M.rd,d)) (a,X.next)).2.1=(X.next,.im t.n (xs.map (encT t)))::(inCs ((l.map encD).map fun d=>(M.rd,d)) (a,X.next+1)).2.1:=rfl
  refine⟨a2,e,fx,Nat.le_trans (Nat.le_succ _) nl,n, ?_,⟨?_,w⟩, ?_, ?_, ?_⟩
  ·refine sim_roots s ?_
   intro r st x hl hx
   rw[e1,e2]
   simp only[List.cons_append,get]
   split
   ·rename_i h
    subst h
    rw[get_append]
    cases hg:get (inCs ((l.map encD).map fun d=>(M.rd,d)) (a,X.next+1)).2.1 X.next with
    | some y=>have:=g _ _ hg;rw[e2]at this;omega
    | none=>simp only[get,if_true]
   ·rename_i h
    rw[get_append,get_append]
    cases hg:get (inCs ((l.map encD).map fun d=>(M.rd,d)) (a,X.next+1)).2.1 r with
    | some y=>rfl
    | none=>simp only[get];rw[if_neg h]
  ·left
   have:lk (lendXs l (X.newR (.im t xs))).2.roots X.next=some (X.stamp,.im t xs):=by
    rw[k _ (by rw[e2];exact Nat.lt_succ_self _)];exact newR_lk _ _
   show cC (lendXs l (X.newR (.im t xs))).2.roots (.rw X.next)=.rf X.next [] t.n 0 (xs.map (encT t)).length
   simp only[cC,this,List.length_map]
  ·intro c hc
   have e3:(lendXs (.sl t xs::l) X).1=.rw X.next::(lendXs l (X.newR (.im t xs))).1:=rfl
   rw[e3]at hc
   rcases List.mem_cons.1 hc with rfl|hc
   ·show X.next<_
    exact Nat.lt_of_lt_of_le (Nat.lt_succ_self X.next) nl
   ·exact o c hc
  ·intro q hq
   show lk (lendXs l (X.newR (.im t xs))).2.roots q=_
   rw[k q (by rw[e2];omega)]
   simp only[XSt.newR];rw[lk_cons,if_neg (by simp only;omega)]
  ·intro q y hq
   rw[e1]at hq
   simp only[get]at hq
   split at hq
   ·omega
   ·have:=g q y hq;rw[e2]at this;omega
theorem envA_lk {s:Nat}:∀{l:List XA}{i t st:Nat}{v:XV},lk (envA s i l) t=some (st,v)->∃a,st=s/\v=.a a/\i<=t/\l[t-i]? = some a
 | [],i,t,st,v,h=>by simp [envA,lk]at h
 | a::l,i,t,st,v,h=>by
  simp only[envA]at h
  rw[lk_cons]at h
  split at h
  ·rename_i e
   simp only at e;subst e
   simp only[Option.some.injEq,Prod.mk.injEq]at h
   exact⟨a,h.1.symm,h.2.symm,Nat.le_refl _,by simp⟩
  ·obtain⟨b,h1,h2,h3,h4⟩:=envA_lk h
   refine⟨b,h1,h2,by omega, ?_⟩
   rw[show t-i=(t-(i+1))+1 by omega,List.getElem?_cons_succ];exact h4
theorem inV_res:∀(args:List (Bool×Ty)) (x:Tp (args.map (·.2))) (cs:List C) (b:Nat),okArgs args=true->cs.length=((argsD args x).flatMap (·.2)).length->inV ((argsD args x).map mkArg) cs b=(newRes (argsD args x) cs).map V.a
 | [],_,_,_,_,_=>rfl
 | (ag,t)::args,x,cs,b,ho,hl=>by
  simp only[okArgs,Bool.and_eq_true,Bool.or_eq_true]at ho
  have hn:=encT_len t (Tp.hd t _ x)
  simp only[argsD,List.flatMap_cons,List.length_append,hn]at hl
  have ih:=inV_res args (Tp.tl t _ x) (cs.drop t.n) b ho.2 (by rw[List.length_drop,hl];omega)
  cases ag with
  | true =>
   simp only[argsD,List.map_cons,mkArg,inV,newRes,newA,if_true,List.length_map,hn,ih]
  | false =>
   have h1:=Nat.eq_of_beq_eq_true (ho.1.resolve_left (by simp))
   simp only[argsD,List.map_cons,mkArg,inV,newRes,newA,Bool.false_eq_true,if_false,List.length_map,hn,ih]
   congr 1
   rw[h1]at hl ⊢
   cases cs with
   | nil=>rw[List.length_nil]at hl;omega
   | cons c cs=>rfl
theorem env0_of:∀{l:List V}{i t:Nat}{v:V},i<=t->l[t-i]? = some v->get (env0 i l) t=some v
 | [],i,t,v,_,h=>by simp at h
 | a::l,i,t,v,hi,h=>by
  simp only[env0,get]
  split
  ·rename_i e;subst e;simpa using h
  ·rename_i e
   refine env0_of (by omega) ?_
   rw[show t-i=(t-(i+1))+1 by omega,List.getElem?_cons_succ]at h;exact h
theorem inX_ok (args:List (Bool×Ty)) (x:Tp (args.map (·.2))) (ho:okArgs args=true):XOk (inX args x)/\SimX (inX args x) ⟨env0 0 (inAs ((argsD args x).map mkArg)).1,(inAs ((argsD args x).map mkArg)).2.1,(inAs ((argsD args x).map mkArg)).2.2,fixN ((argsD args x).map mkArg)⟩:=by
 have he:XOk empX:=⟨fun r s x h=>by simp [empX,lk]at h,fun r s x h=>by simp [empX,lk]at h,fun r s x h=>by simp [empX,lk]at h,Nat.le_refl _⟩
 have hs:SimX empX ⟨[],[],empX.next,0⟩:=⟨rfl,rfl,fun t s v h=>by simp [empX,lk]at h,fun r s x h=>by simp [empX,lk]at h⟩
 obtain⟨a,e,fx,nl,n,s,w,o,k,g⟩:=lendXs_ok (a:=0) (resCells args x) he hs
 rw[resCells_enc]at n s w
 have hfix:fixN ((argsD args x).map mkArg)=0:=by unfold fixN;rw[flat_mk,fixCs_rd,nBox_mk]
 have hcell:inCells ((argsD args x).map mkArg)=inCs (((argsD args x).flatMap (·.2)).map fun d=>(M.rd,d)) (0,0):=by unfold inCells;rw[flat_mk,hfix]
 have hroots:(inAs ((argsD args x).map mkArg)).2.1=(inCs (((argsD args x).flatMap (·.2)).map fun d=>(M.rd,d)) (0,0)).2.1:=by
  show (inCells _).2.1++rootB (inB _ (inCells _).1) _=_
  rw[inB_mk,hcell];simp [rootB]
 have hnext:(inAs ((argsD args x).map mkArg)).2.2=(inCs (((argsD args x).flatMap (·.2)).map fun d=>(M.rd,d)) (0,0)).2.2.2:=by show (inCells _).2.2.2=_;rw[hcell]
 have hval:(inAs ((argsD args x).map mkArg)).1=inV ((argsD args x).map mkArg) (inCs (((argsD args x).flatMap (·.2)).map fun d=>(M.rd,d)) (0,0)).1 (fixCs (flat ((argsD args x).map mkArg))):=by show inV _ (inCells _).1 _=_;rw[hcell]
 have hlen:(inCs (((argsD args x).flatMap (·.2)).map fun d=>(M.rd,d)) (0,0)).1.length=((argsD args x).flatMap (·.2)).length:=by
  have key:∀(l:List (M×D)) (k:Kk),(inCs l k).1.length=l.length:=by
   intro l
   induction l with
   | nil=>intro k;rfl
   | cons a l ih=>intro k;obtain⟨m,d⟩:=a;simp only[inCs,List.length_cons,ih]
  rw[key,List.length_map]
 rw[hroots,hnext,hval,hfix,inV_res args x _ _ ho hlen]
 have hnx:empX.next=0:=rfl
 rw[hnx]at n s w
 have same:∀r st z,lk (lendXs (resCells args x) empX).2.roots r=some (st,z)->st<(lendXs (resCells args x) empX).2.stamp->lk (lendXs (resCells args x) empX).2.roots r=some (st,z):=fun _ _ _ h _=>h
 have hA:=resAs_wk args x _ _ w (by
  have:(lendXs (resCells args x) empX).1.length=(resCells args x).length:=by
   have key:∀(l:List XD) (X:XSt),(lendXs l X).1.length=l.length:=by
    intro l
    induction l with
    | nil=>intro X;rfl
    | cons d l ih=>intro X;cases d<;>simp only[lendXs,List.length_cons,ih]
   exact key _ _
  rw[this,<-argsD_len,List.length_map])
 refine⟨⟨fun r st z h=>⟨(a.ids r st z h).1,Nat.lt_succ_of_lt (a.ids r st z h).2⟩, ?_, ?_,Nat.zero_le _⟩,⟨?_,rfl, ?_, ?_⟩⟩
 ·intro t st v hl
  obtain⟨b,rfl,rfl,_,h4⟩:=envA_lk hl
  refine⟨Nat.lt_succ_self _, ?_⟩
  exact okA.ext (Nat.le_refl _) (Nat.le_succ _) same (resAs_ok args _ o b (List.mem_of_getElem? h4))
 ·intro r st cs h e he
  obtain⟨q1,q2⟩:=a.box r st cs h e he
  exact⟨Nat.lt_succ_of_lt q1,okC.ext (Nat.le_refl _) (Nat.le_succ _) same q2⟩
 ·exact n.symm
 ·intro t st v hl
  obtain⟨b,rfl,rfl,h3,h4⟩:=envA_lk hl
  obtain⟨y,y1,y2⟩:=wkA_get (i:=t-0) (x:=cA (lendXs (resCells args x) empX).2.roots b) hA (by rw[List.getElem?_map,h4];rfl)
  exact .inr ⟨.a y,env0_of (Nat.zero_le _) (by rw[List.getElem?_map,y1];rfl),y2⟩
 ·intro r st z hl y hy
  obtain⟨y',h1,h2⟩:=s.roots r st z hl y hy
  exact⟨y',by simpa using h1,h2⟩
def exitX {β:Type}(X:XSt):List I->(List XA->Option β)->Option β
 | [],k=>k []
 | i::is,k=>rdX X i fun v=>match v with
  | .a x=>exitX X is fun xs=>k (x::xs)
  | _=>none
def cellsAs:List XA->List XC
 | []=>[]
 | .c c::l=>c::cellsAs l
 | .ag cs::l=>cs++cellsAs l
def shapeX:List (Bool×Ty)->List XA->Bool
 | [],[]=>true
 | (false,t)::rs,.c _::l=>Nat.beq t.n 1&&shapeX rs l
 | (true,t)::rs,.ag cs::l=>Nat.beq cs.length t.n&&shapeX rs l
 | _,_=>false
def readR {β:Type}(R:XRs):(rs:List (Bool×Ty))->List XC->(Tp (rs.map (·.2))->Option β)->Option β
 | [],cs,k=>match cs with
  | []=>k ()
  | _=>none
 | (_,t)::rs,cs,k=>readT R t cs fun x cs=>readR R rs cs fun xs=>k (Tp.mk t _ x xs)
def leaveX (rs:List (Bool×Ty)) (X:XSt) (is:List I):Option (Tp (rs.map (·.2))) :=
 exitX X is fun xs=>match shapeX rs xs,ownIds X.roots (cellsAs xs) with
  | true,some ids=>match nodupN ids with
   | true=>readR X.roots rs (cellsAs xs) some
   | false=>none
  | _,_=>none
noncomputable def fnX {P:Program}(Φ:List (Fx P)) (H:List (Nat×Hn)) (s:Stm) (an:An) (is:List I) (args rs:List (Bool×Ty)) (x:Tp (args.map (·.2))):Option (Tp (rs.map (·.2))) :=
 runX Φ H s an (inX args x) fun e X'=>match e with
  | .ret=>leaveX rs X' is
  | .normal=>leaveX rs X' is
  | _=>none
section
variable {P:Program}
theorem exitX_ok {β:Type}{out:β}{X:XSt}{S:St}(hX:XOk X) (hS:SimX X S):∀(is:List I) (k:List XA->Option β),exitX X is k=some out ->
  ∃xs ys,k xs=some out/\All2 WkA ys (xs.map (cA X.roots))/\(∀x∈xs,okA X.roots X.next X.stamp x)/\∀K:List A->Prop,K ys->resK S is K
 | [],k,h=>⟨[],[],h,trivial,by simp,fun K hK=>hK⟩
 | i::is,k,h=>by
  simp only[exitX]at h
  obtain⟨xv,h,ho,v,hw,hev⟩:=rdX_ok hX hS h
  simp only at h
  split at h
  ·rename_i x
   obtain⟨xs,ys,h,h1,h2,h3⟩:=exitX_ok hX hS is _ h
   cases v with
   | a y =>
    refine⟨x::xs,y::ys,h,⟨hw,h1⟩, ?_, ?_⟩
    ·intro z hz
     rcases List.mem_cons.1 hz with rfl|hz
     ·exact ho
     ·exact h2 z hz
    ·intro K hK
     simp only[resK]
     exact hev _ (h3 _ hK)
   | _=>exact hw.elim
  ·simp at h
theorem readR_ok {β:Type}{out:β}{R:XRs}{nx st:Nat}:∀(rs:List (Bool×Ty)) (cs:List XC) (k:Tp (rs.map (·.2))->Option β),(∀c∈cs,okC R nx st c)->readR R rs cs k=some out ->
  ∃y,k y=some out/\All2 (CD R) cs ((argsD rs y).flatMap (·.2))
 | [],cs,k,ho,h=>by
  simp only[readR]at h
  split at h
  ·exact⟨(),h,trivial⟩
  ·simp at h
 | (ag,t)::rs,cs,k,ho,h=>by
  simp only[readR]at h
  obtain⟨x,c0,c1,rfl,h1,h2⟩:=readT_ok t cs _ out ho h
  obtain⟨y,h3,h4⟩:=readR_ok rs c1 _ (fun c hc=>ho c (List.mem_append_right _ hc)) h1
  refine⟨_,h3, ?_⟩
  simp only[argsD,Tp.hd_mk,Tp.tl_mk,List.flatMap_cons]
  exact All2.append h2 h4
theorem shape_ok {R:XRs}:∀(rs:List (Bool×Ty)) (y:Tp (rs.map (·.2))) (xs:List XA) (ys:List A),shapeX rs xs=true->All2 WkA ys (xs.map (cA R))->ys.map (fun x=>((cellsA x).1,(cellsA x).2.length))=(argsD rs y).map (fun x=>(x.1,x.2.length))/\All2 WkC (ys.flatMap fun x=>(cellsA x).2) ((cellsAs xs).map (cC R))
 | [],_,[],[],_,_=>⟨rfl,trivial⟩
 | (ag,t)::rs,y,x::xs,z::ys,h,hw=>by
  have hn:=encT_len t (Tp.hd t _ y)
  cases ag with
  | false=>cases x with
   | c c =>
    simp only[shapeX,Bool.and_eq_true]at h
    obtain⟨a,b⟩:=shape_ok rs (Tp.tl t _ y) xs ys h.2 hw.2
    cases z with
    | c z =>
     refine⟨?_,⟨hw.1,b⟩⟩
     rw[List.map_cons,a]
     simp only[argsD,List.map_cons,cellsA,hn,Nat.eq_of_beq_eq_true h.1,List.length_cons,List.length_nil]
    | ag _=>exact hw.1.elim
   | ag cs=>simp [shapeX]at h
  | true=>cases x with
   | c c=>simp [shapeX]at h
   | ag cs =>
    simp only[shapeX,Bool.and_eq_true]at h
    obtain⟨a,b⟩:=shape_ok rs (Tp.tl t _ y) xs ys h.2 hw.2
    cases z with
    | c z=>exact hw.1.elim
    | ag zs =>
     have hl:=All2.length (show All2 WkC zs (cs.map (cC R)) from hw.1)
     rw[List.length_map]at hl
     refine⟨?_, ?_⟩
     ·rw[List.map_cons,a]
      simp only[argsD,List.map_cons,cellsA,hn,hl,Nat.eq_of_beq_eq_true h.1]
     ·simp only[List.flatMap_cons,cellsA,cellsAs,List.map_append]
      exact wk_app hw.1 b
 | [],_,_::_,_,h,_=>by simp [shapeX]at h
 | (false,_)::_,_,[],_,h,_=>by simp [shapeX]at h
 | (true,_)::_,_,[],_,h,_=>by simp [shapeX]at h
 | [],_,[],_::_,_,h=>h.elim
 | _::_,_,_::_,[],_,h=>h.elim
theorem cellsAs_ok {R:XRs}{nx st:Nat}:∀{xs:List XA},(∀x∈xs,okA R nx st x)->∀c∈cellsAs xs,okC R nx st c
 | [],_,c,hc=>by simp [cellsAs]at hc
 | .c x::l,h,c,hc=>by
  simp only[cellsAs,List.mem_cons]at hc
  rcases hc with rfl|hc
  ·exact h _ List.mem_cons_self
  ·exact cellsAs_ok (fun x hx=>h x (List.mem_cons_of_mem _ hx)) c hc
 | .ag cs::l,h,c,hc=>by
  simp only[cellsAs,List.mem_append]at hc
  rcases hc with hc|hc
  ·exact h _ List.mem_cons_self c hc
  ·exact cellsAs_ok (fun x hx=>h x (List.mem_cons_of_mem _ hx)) c hc
theorem leaveX_ok {rs:List (Bool×Ty)}{X:XSt}{S:St}{is:List I}{y:Tp (rs.map (·.2))}{av:List (Bool×List D)}(hX:XOk X) (hS:SimX X S) (h:leaveX rs X is=some y):resK S is fun xs=>Leaves (av.map mkArg) ⟨argsD rs y,[],[]⟩ S.roots (resV xs):=by
 unfold leaveX at h
 obtain⟨xs,ys,h,h1,h2,h3⟩:=exitX_ok hX hS is _ h
 split at h
 ·rename_i ids hsh hids
  split at h
  ·rename_i hnd
   obtain⟨y',h,hcd⟩:=readR_ok rs _ _ (cellsAs_ok h2) h
   simp only[Option.some.injEq]at h
   subst h
   obtain⟨s1,s2⟩:=shape_ok rs y' xs ys hsh h1
   obtain⟨rt,f1,f2⟩:=takeAll_sim hS (cellsAs xs) _ ids S.roots hcd hids (nodupN_ok hnd) (fun _ _=>rfl)
   have hk:=cd_known hcd s2
   refine h3 _ (leaves_vals (rt:=rt) (inB_mk av _) ?_ s1 ?_)
   ·rw[flat_mk]
    generalize av.flatMap (·.2)=l
    have key:∀(l:List D) (k:Nat),ioOf (l.map fun d=>(M.rd,d)) k=[]:=by
     intro l
     induction l with
     | nil=>intro k;rfl
     | cons d l ih=>intro k;cases d<;>exact ih k
    exact key l 0
   ·rw[hk];exact f1
  ·simp at h
 ·simp at h
theorem runs_of_fn (hm:P.follows .mixedOrders=true){f:FuncId}{fn:Func}{N:Nat}{s:Stm}{is:List I}{Φ:List (Fx P)}{H:List (Nat×Hn)}{an:An}{args rs:List (Bool×Ty)}(hf:P.funcs[f]? = some fn) (hb:(fn.body.bind (trC P fn.ntmps))=some s) (hi:trRes P fn.results.toList=some is) (hn:Nat.ble args.length fn.ntmps=true) (ho:okArgs args=true)
  {x:Tp (args.map (·.2))} {y:Tp (rs.map (·.2))} (h:fnX Φ H s an is args rs x=some y):Runs P f ((argsD args x).map mkArg) ⟨argsD rs y,[],[]⟩:=by
 obtain⟨c,hb,hs⟩:=body_of hb
 obtain⟨h1,h2⟩:=inX_ok args x ho
 have hl:((argsD args x).map mkArg).length=args.length:=by
  have key:∀(as:List (Bool×Ty)) (x:Tp (as.map (·.2))),(argsD as x).length=as.length:=by
   intro as
   induction as with
   | nil=>intro x;rfl
   | cons a as ih=>intro x;obtain⟨ag,t⟩:=a;simp only[argsD,List.length_cons,ih]
  rw[List.length_map,key]
 refine runs_of_sw hf hb hs hi (by rw[hl];exact Nat.le_of_ble_eq_true hn) ?_
 refine runX_ok hm s an h1 h2 h ?_
 intro e X' S' g1 g2 g3 g4
 cases e with
 | ret=>exact leaveX_ok g1 g3 g4
 | normal=>exact leaveX_ok g1 g3 g4
 | _=>simp at g4
end
end Go.Vs
namespace Go.Vs
variable [Glb]
def cellG:(as:List GArg)->Tp (argTys as)->List (M×XD)
 | [],_=>[]
 | a::as,x=>a.ms.zip (tcells a.t (Tp.hd a.t _ x))++cellG as (Tp.tl a.t _ x)
def fixM:M->Nat
 | .io=>1
 | .rx=>1
 | _=>0
def fixL:List (M×XD)->Nat
 | []=>0
 | (m,.sl _ _)::l=>fixM m+fixL l
 | _::l=>fixL l
def nPtr:List GArg->Nat
 | []=>0
 | a::as=>match a.ptr with
  | true=>nPtr as+1
  | false=>nPtr as
def inL:List (M×XD)->Nat->Nat->List XC×XRs×Nat
 | [],_,k2=>([],[],k2)
 | (_,.lf c)::l,k1,k2=>(leafC c::(inL l k1 k2).1,(inL l k1 k2).2)
 | (m,.sl t xs)::l,k1,k2=>match m with
  | .io=>(.rw k1::(inL l (k1+1) k2).1,(k1,0,.tr t xs)::(inL l (k1+1) k2).2.1,(inL l (k1+1) k2).2.2)
  | .rx=>(.rw k1::(inL l (k1+1) k2).1,(k1,0,.im t xs)::(inL l (k1+1) k2).2.1,(inL l (k1+1) k2).2.2)
  | .ow=>(.rw k2::(inL l k1 (k2+1)).1,(k2,0,.tr t xs)::(inL l k1 (k2+1)).2.1,(inL l k1 (k2+1)).2.2)
  | .rd=>(.rw k2::(inL l k1 (k2+1)).1,(k2,0,.im t xs)::(inL l k1 (k2+1)).2.1,(inL l k1 (k2+1)).2.2)
def inAX:List GArg->List XC->Nat->List XA
 | [],_,_=>[]
 | a::as,cs,b=>match a.ptr with
  | true=>.c (.pb b 0)::inAX as (cs.drop (lenL a.ms)) (b+1)
  | false=>(match a.ag with
   | true=>.ag (cs.take (lenL a.ms))
   | false=>match cs.take (lenL a.ms) with
    | [c]=>.c c
    | _=>.ag [])::inAX as (cs.drop (lenL a.ms)) b
def inBX:List GArg->List XC->Nat->XRs
 | [],_,_=>[]
 | a::as,cs,b=>match a.ptr with
  | true=>(b,0,.bx ((cs.take (lenL a.ms)).map fun c=>(0,c)))::inBX as (cs.drop (lenL a.ms)) (b+1)
  | false=>inBX as (cs.drop (lenL a.ms)) b
def inGX (as:List GArg) (x:Tp (argTys as)):XSt :=
 ⟨envA 0 0 (inAX as (inL (cellG as x) 0 (fixL (cellG as x)+nPtr as)).1 (fixL (cellG as x))),(inL (cellG as x) 0 (fixL (cellG as x)+nPtr as)).2.1++inBX as (inL (cellG as x) 0 (fixL (cellG as x)+nPtr as)).1 (fixL (cellG as x)),(inL (cellG as x) 0 (fixL (cellG as x)+nPtr as)).2.2,1,fixL (cellG as x)+nPtr as⟩
def okG:List GArg->Bool
 | []=>true
 | a::as=>Nat.beq (lenL a.ms) a.t.n&&((a.ptr||a.ag)||Nat.beq a.t.n 1)&&okG as
def readL {β:Type}(R:XRs):List Ty->List XC->(List Sg->List XC->Option β)->Option β
 | [],cs,k=>k [] cs
 | t::ts,cs,k=>readT R t cs fun x cs=>readL R ts cs fun vs cs=>k (⟨t,x⟩::vs) cs
def ioOut {β:Type}(R:XRs):List (M×XD)->Nat->(List Sg->List Nat->Option β)->Option β
 | [],_,k=>k [] []
 | (_,.lf _)::l,n,k=>ioOut R l n k
 | (m,.sl t xs)::l,n,k=>match m with
  | .io=>match lk R n with
   | some (_,.tr t' ys)=>castL t' t ys fun ys=>chk (nEq ys.length xs.length) (ioOut R l (n+1) fun vs ids=>k (⟨.L t,ys⟩::vs) (n::ids))
   | _=>none
  | .rx=>ioOut R l (n+1) k
  | _=>ioOut R l n k
def stayC (R:XRs) (e:Nat×XC):Bool:=match e.1,e.2 with
 | 0,.rw r=>match lk R r with
  | some (0,.im _ _)=>true
  | _=>false
 | _,_=>false
def pickB (R:XRs):List M->List Ty->List (Nat×XC)->Option (List XC)
 | [],[],[]=>some []
 | m::ms,t::ts,e::es=>match m,isLT t with
  | .rx,true=>match stayC R e with
   | true=>pickB R ms ts es
   | false=>none
  | _,_=>match pickB R ms ts es with
   | some cs=>some (e.2::cs)
   | none=>none
 | _,_,_=>none
def picksB (R:XRs):List GArg->Nat->Option (List XC)
 | [],_=>some []
 | a::as,b=>match a.ptr with
  | true=>match lk R b with
   | some (_,.bx es)=>match pickB R a.ms (cts a.t) es,picksB R as (b+1) with
    | some cs,some ds=>match Nat.beq cs.length (optN a.o)&&noHT a.t with
     | true=>some (cs++ds)
     | false=>none
    | _,_=>none
   | _=>none
  | false=>picksB R as b
def leaveG (as:List GArg) (rs:List (Bool×Ty)) (x:Tp (argTys as)) (X:XSt) (is:List I):Option (Tp (outTys as rs)) :=
 exitX X is fun xs=>match shapeX rs xs,picksB X.roots as (fixL (cellG as x)) with
  | true,some ps=>match ownIds X.roots (cellsAs xs++ps) with
   | some ids=>match nodupN ids with
    | true=>readL X.roots (resTys rs) (cellsAs xs) fun vr rest=>match rest with
     | []=>ioOut X.roots (cellG as x) 0 fun vio ios=>match disjN ids ios with
      | true=>readL X.roots (bxTys as) ps fun vb rest=>match rest with
       | []=>coll (outTys as rs) (vr++(vio++vb)) some
       | _=>none
      | false=>none
     | _=>none
    | false=>none
   | none=>none
  | _,_=>none
noncomputable def fnG {P:Program}(Φ:List (Fx P)) (H:List (Nat×Hn)) (s:Stm) (an:An) (is:List I) (as:List GArg) (rs:List (Bool×Ty)) (x:Tp (argTys as)):Option (Tp (outTys as rs)) :=
 runX Φ H s an (inGX as x) fun e X'=>match e with
  | .ret=>leaveG as rs x X' is
  | .normal=>leaveG as rs x X' is
  | _=>none
theorem lk_mem {α:Type}:∀{l:List (Nat×Nat×α)}{r:Nat}{e:Nat×α},lk l r=some e->(r,e)∈l
 | [],r,e,h=>by simp [lk]at h
 | x::l,r,e,h=>by
  rw[lk_cons]at h
  split at h
  ·rename_i hx
   subst hx
   simp only[Option.some.injEq]at h
   subst h
   exact List.mem_cons_self
  ·exact List.mem_cons_of_mem _ (lk_mem h)
theorem lk_of_mem {α:Type}:∀{l:List (Nat×Nat×α)}{r:Nat}{e:Nat×α},(l.map (·.1)).Nodup->(r,e)∈l->lk l r=some e
 | [],r,e,_,h=>by simp at h
 | x::l,r,e,hn,h=>by
  simp only[List.map_cons,List.nodup_cons]at hn
  rw[lk_cons]
  rcases List.mem_cons.1 h with rfl|h
  ·rw[if_pos rfl]
  ·rw[if_neg (fun he=>hn.1 (by rw[he];exact List.mem_map.2 ⟨(r,e),h,rfl⟩))]
   exact lk_of_mem hn.2 h
def encM (z:M×XD):M×D:=(z.1,encD z.2)
theorem cellG_flat:∀(as:List GArg) (x:Tp (argTys as)),okG as=true->(cellG as x).map encM=flat (argsG as x)
 | [],_,_=>rfl
 | a::as,x,h=>by
  simp only[okG,Bool.and_eq_true]at h
  have ih:=cellG_flat as (Tp.tl a.t _ x) h.2
  have e1:(a.ms.zip (tcells a.t (Tp.hd a.t _ x))).map encM=a.ms.zip (encT a.t (Tp.hd a.t _ x)):=by
   rw[<-tcells_enc]
   generalize tcells a.t (Tp.hd a.t _ x)=ds
   generalize a.ms=ms
   induction ms generalizing ds with
   | nil=>rfl
   | cons m ms ih=>cases ds with
    | nil=>rfl
    | cons d ds=>simp only[List.zip_cons_cons,List.map_cons,ih];rfl
  simp only[cellG,List.map_append,e1,ih,flat,argsG,List.flatMap_cons]
  congr 1
  simp only[mkG]
  cases a.ptr<;>rfl
theorem nPtr_box:∀(as:List GArg) (x:Tp (argTys as)),nBox (argsG as x)=nPtr as
 | [],_=>rfl
 | a::as,x=>by
  simp only[argsG,nPtr,mkG]
  cases a.ptr<;>simp only[nBox,nPtr_box as]
theorem leafC_enc (R:XRs) (c:XC):WkC (match encD (.lf c) with|.lf v=>.lf v|_=>.un) (cC R (leafC c)):=by
 cases c<;>first|exact .inl rfl|exact .inr rfl
theorem fixL_eq:∀(l:List (M×XD)),fixCs (l.map encM)=fixL l
 | []=>rfl
 | (m,.lf c)::l=>by
  have:fixC (encM (m,.lf c))=0:=by cases c<;>cases m<;>rfl
  simp only[List.map_cons,fixCs,fixL,fixL_eq l,this,Nat.zero_add]
 | (m,.sl t xs)::l=>by
  have:fixC (encM (m,.sl t xs))=fixM m:=by cases m<;>rfl
  simp only[List.map_cons,fixCs,fixL,fixL_eq l,this]
def RtRel (y:Nat×Root) (z:Nat×Nat×XR):Prop:=y.1=z.1/\z.2.1=0/\((∃(t:Ty) (xs:List t.den),z.2.2=.tr t xs/\y.2=.tr t.n (xs.map (encT t)))\/∃(t:Ty) (xs:List t.den),z.2.2=.im t xs/\y.2=.im t.n (xs.map (encT t)))
def InOk (l:List (M×XD)) (k1 k2:Nat):Prop :=
  All2 (fun c x=>(∀R:XRs,(∀z∈(inL l k1 k2).2.1,lk R z.1=some z.2)->WkC c (cC R x))/\∀nx st R,(∀z∈(inL l k1 k2).2.1,z.1<nx)->okC R nx st x) (inCs (l.map encM) (k1,k2)).1 (inL l k1 k2).1 /\
  All2 RtRel (inCs (l.map encM) (k1,k2)).2.1 (inL l k1 k2).2.1/\(inCs (l.map encM) (k1,k2)).2.2.2=(inL l k1 k2).2.2/\k2<=(inL l k1 k2).2.2/\((inL l k1 k2).2.1.map (·.1)).Nodup/\∀z∈(inL l k1 k2).2.1,(k1<=z.1/\z.1<k1+fixL l)\/(k2<=z.1/\z.1<(inL l k1 k2).2.2)
theorem inL_ok:∀(l:List (M×XD)) (k1 k2:Nat),k1+fixL l<=k2->InOk l k1 k2
 | [],k1,k2,_=>⟨trivial,trivial,rfl,Nat.le_refl _,List.nodup_nil,by simp [inL]⟩
 | (m,.lf c)::l,k1,k2,h=>by
  have hf:fixL ((m,.lf c)::l)=fixL l:=rfl
  rw[hf]at h
  obtain⟨a,b,n,u,d,e⟩:=inL_ok l k1 k2 h
  have hd:(inC m (encD (.lf c)) (k1,k2))=((match encD (.lf c) with|.lf v=>.lf v|_=>.un),[],(k1,k2)):=by cases c<;>rfl
  have e1:(inCs (((m,XD.lf c)::l).map encM) (k1,k2)).1=(match encD (.lf c) with|.lf v=>.lf v|_=>.un)::(inCs (l.map encM) (k1,k2)).1:=by
   simp only[List.map_cons,encM,inCs,hd]
  have e2:(inCs (((m,XD.lf c)::l).map encM) (k1,k2)).2=(inCs (l.map encM) (k1,k2)).2:=by
   simp only[List.map_cons,encM,inCs,hd,List.nil_append]
  unfold InOk
  rw[e1,e2,hf]
  refine⟨⟨⟨fun R _=>leafC_enc R c,fun nx st R _=>by cases c<;>trivial⟩,a⟩,b,n,u,d,e⟩
 | (m,.sl t xs)::l,k1,k2,h=>by
  have low:∀(x:XR) (y:Root),(inC m (encD (.sl t xs)) (k1,k2))=(.rf k1 [] t.n 0 (xs.map (encT t)).length,[(k1,y)],(k1+1,k2))->fixM m=1->(inL ((m,.sl t xs)::l) k1 k2)=(.rw k1::(inL l (k1+1) k2).1,(k1,0,x)::(inL l (k1+1) k2).2.1,(inL l (k1+1) k2).2.2)->((x=.tr t xs/\y=.tr t.n (xs.map (encT t)))\/(x=.im t xs/\y=.im t.n (xs.map (encT t))))->InOk ((m,.sl t xs)::l) k1 k2:=by
   intro x y hd hm he hxy
   have hf:fixL ((m,.sl t xs)::l)=1+fixL l:=by simp only[fixL,hm]
   rw[hf]at h
   obtain⟨a,b,n,u,d,e⟩:=inL_ok l (k1+1) k2 (by omega)
   have e1:(inCs (((m,XD.sl t xs)::l).map encM) (k1,k2)).1=.rf k1 [] t.n 0 (xs.map (encT t)).length::(inCs (l.map encM) (k1+1,k2)).1:=by
    simp only[List.map_cons,encM,inCs,hd]
   have e2:(inCs (((m,XD.sl t xs)::l).map encM) (k1,k2)).2.1=(k1,y)::(inCs (l.map encM) (k1+1,k2)).2.1:=by
    simp only[List.map_cons,encM,inCs,hd,List.singleton_append]
   have e3:(inCs (((m,XD.sl t xs)::l).map encM) (k1,k2)).2.2=(inCs (l.map encM) (k1+1,k2)).2.2:=by
    simp only[List.map_cons,encM,inCs,hd]
   have goal:InOk ((m,.sl t xs)::l) k1 k2:=by
    unfold InOk
    rw[e1,e2,e3,he,hf]
    refine⟨⟨⟨fun R hR=>?_,fun nx st R hR=>hR _ List.mem_cons_self⟩, ?_⟩,⟨⟨rfl,rfl, ?_⟩,b⟩,n,u, ?_, ?_⟩
    ·have:=hR (k1,0,x) List.mem_cons_self
     left
     rcases hxy with ⟨rfl,_⟩|⟨rfl,_⟩<;>simp only[cC,this,List.length_map]
    ·refine a.mono ?_
     intro c z ⟨q1,q2⟩
     exact⟨fun R hR=>q1 R fun w hw=>hR w (List.mem_cons_of_mem _ hw),fun nx st R hR=>q2 nx st R fun w hw=>hR w (List.mem_cons_of_mem _ hw)⟩
    ·rcases hxy with ⟨rfl,rfl⟩|⟨rfl,rfl⟩
     ·exact .inl ⟨t,xs,rfl,rfl⟩
     ·exact .inr ⟨t,xs,rfl,rfl⟩
    ·simp only[List.map_cons,List.nodup_cons]
     refine⟨fun hm=>?_,d⟩
     obtain⟨z,hz,hz2⟩:=List.mem_map.1 hm
     rcases e z hz with q|q<;>omega
    ·intro z hz
     rcases List.mem_cons.1 hz with rfl|hz
     ·left;simp only;omega
     ·rcases e z hz with q|q
      ·left;omega
      ·exact .inr q
   exact goal
  have high:∀(x:XR) (y:Root),(inC m (encD (.sl t xs)) (k1,k2))=(.rf k2 [] t.n 0 (xs.map (encT t)).length,[(k2,y)],(k1,k2+1))->fixM m=0->(inL ((m,.sl t xs)::l) k1 k2)=(.rw k2::(inL l k1 (k2+1)).1,(k2,0,x)::(inL l k1 (k2+1)).2.1,(inL l k1 (k2+1)).2.2)->((x=.tr t xs/\y=.tr t.n (xs.map (encT t)))\/(x=.im t xs/\y=.im t.n (xs.map (encT t))))->InOk ((m,.sl t xs)::l) k1 k2:=by
   intro x y hd hm he hxy
   have hf:fixL ((m,.sl t xs)::l)=fixL l:=by simp only[fixL,hm,Nat.zero_add]
   rw[hf]at h
   obtain⟨a,b,n,u,d,e⟩:=inL_ok l k1 (k2+1) (by omega)
   have e1:(inCs (((m,XD.sl t xs)::l).map encM) (k1,k2)).1=.rf k2 [] t.n 0 (xs.map (encT t)).length::(inCs (l.map encM) (k1,k2+1)).1:=by
    simp only[List.map_cons,encM,inCs,hd]
   have e2:(inCs (((m,XD.sl t xs)::l).map encM) (k1,k2)).2.1=(k2,y)::(inCs (l.map encM) (k1,k2+1)).2.1:=by
    simp only[List.map_cons,encM,inCs,hd,List.singleton_append]
   have e3:(inCs (((m,XD.sl t xs)::l).map encM) (k1,k2)).2.2=(inCs (l.map encM) (k1,k2+1)).2.2:=by
    simp only[List.map_cons,encM,inCs,hd]
   have goal:InOk ((m,.sl t xs)::l) k1 k2:=by
    unfold InOk
    rw[e1,e2,e3,he,hf]
    refine⟨⟨⟨fun R hR=>?_,fun nx st R hR=>hR _ List.mem_cons_self⟩, ?_⟩,⟨⟨rfl,rfl, ?_⟩,b⟩,n,(by show k2<=(inL l k1 (k2+1)).2.2;omega), ?_, ?_⟩
    ·have:=hR (k2,0,x) List.mem_cons_self
     left
     rcases hxy with ⟨rfl,_⟩|⟨rfl,_⟩<;>simp only[cC,this,List.length_map]
    ·refine a.mono ?_
     intro c z ⟨q1,q2⟩
     exact⟨fun R hR=>q1 R fun w hw=>hR w (List.mem_cons_of_mem _ hw),fun nx st R hR=>q2 nx st R fun w hw=>hR w (List.mem_cons_of_mem _ hw)⟩
    ·rcases hxy with ⟨rfl,rfl⟩|⟨rfl,rfl⟩
     ·exact .inl ⟨t,xs,rfl,rfl⟩
     ·exact .inr ⟨t,xs,rfl,rfl⟩
    ·simp only[List.map_cons,List.nodup_cons]
     refine⟨fun hm=>?_,d⟩
     obtain⟨z,hz,hz2⟩:=List.mem_map.1 hm
     rcases e z hz with q|q<;>omega
    ·intro z hz
     rcases List.mem_cons.1 hz with rfl|hz
     ·right;simp only;omega
     ·rcases e z hz with q|q
      ·exact .inl q
      ·right;simp only;omega
   exact goal
  cases m with
  | io=>exact low _ _ rfl rfl rfl (.inl ⟨rfl,rfl⟩)
  | rx=>exact low _ _ rfl rfl rfl (.inr ⟨rfl,rfl⟩)
  | ow=>exact high _ _ rfl rfl rfl (.inl ⟨rfl,rfl⟩)
  | rd=>exact high _ _ rfl rfl rfl (.inr ⟨rfl,rfl⟩)
theorem all2_mem {α β:Type}{R:α->β->Prop}:∀{as:List α}{bs:List β},All2 R as bs->∀b∈bs,∃a∈as,R a b
 | [],[],_,b,hb=>by simp at hb
 | a::as,b::bs,h,c,hc=>by
  rcases List.mem_cons.1 hc with rfl|hc
  ·exact⟨a,List.mem_cons_self,h.1⟩
  ·obtain⟨d,d1,d2⟩:=all2_mem h.2 c hc;exact⟨d,List.mem_cons_of_mem _ d1,d2⟩
 | [],_::_,h,_,_=>h.elim
 | _::_,[],h,_,_=>h.elim
theorem all2_keys:∀{ys:List (Nat×Root)}{zs:XRs},All2 RtRel ys zs->ys.map (·.1)=zs.map (·.1)
 | [],[],_=>rfl
 | y::ys,z::zs,h=>by simp only[List.map_cons,all2_keys h.2,h.1.1]
 | [],_::_,h=>h.elim
 | _::_,[],h=>h.elim
theorem argsG_len {a:GArg}{x:a.t.den}(h:lenL a.ms=a.t.n):(a.ms.zip (encT a.t x)).length=lenL a.ms:=by
 rw[List.length_zip,encT_len,<-h,lenL_eq];omega
theorem inAX_ok {R:XRs}:∀(as:List GArg) (x:Tp (argTys as)) (us:List C) (cs:List XC) (b:Nat),okG as=true->us.length=(flat (argsG as x)).length->All2 (fun c x=>WkC c (cC R x)) us cs->(∀z∈inBX as cs b,lk R z.1=some z.2) ->
  All2 (fun v a=>WkV v (cV R (.a a))) (inV (argsG as x) us b) (inAX as cs b)
 | [],_,_,_,_,_,_,_,_=>trivial
 | a::as,x,us,cs,b,h,hl,hw,hB=>by
  simp only[okG,Bool.and_eq_true,Bool.or_eq_true]at h
  obtain⟨⟨h1,h2⟩,h3⟩:=h
  have h1:=Nat.eq_of_beq_eq_true h1
  have hz:=argsG_len (x:=Tp.hd a.t _ x) h1
  have hcell:(mkG a (Tp.hd a.t _ x)).cells=a.ms.zip (encT a.t (Tp.hd a.t _ x)):=by simp only[mkG];cases a.ptr<;>rfl
  simp only[flat,argsG,List.flatMap_cons,List.length_append,hcell,hz]at hl
  have hdrop:All2 (fun c x=>WkC c (cC R x)) (us.drop (lenL a.ms)) (cs.drop (lenL a.ms)):=by
   have:All2 WkC us (cs.map (cC R)):=by
    clear hl hB
    induction us generalizing cs with
    | nil=>cases cs<;>exact hw
    | cons u us ih=>cases cs with
     | nil=>exact hw.elim
     | cons c cs=>exact⟨hw.1,ih cs hw.2⟩
   have:=wk_drop (n:=lenL a.ms) this
   rw[<-List.map_drop]at this
   revert this
   generalize us.drop (lenL a.ms)=p
   generalize cs.drop (lenL a.ms)=q
   intro this
   induction p generalizing q with
   | nil=>cases q<;>exact this
   | cons u us ih=>cases q with
    | nil=>exact this.elim
    | cons c cs=>exact⟨this.1,ih cs this.2⟩
  have htake:All2 WkC (us.take (lenL a.ms)) ((cs.take (lenL a.ms)).map (cC R)):=by
   have:All2 WkC us (cs.map (cC R)):=by
    clear hl hB hdrop
    induction us generalizing cs with
    | nil=>cases cs<;>exact hw
    | cons u us ih=>cases cs with
     | nil=>exact hw.elim
     | cons c cs=>exact⟨hw.1,ih cs hw.2⟩
   have:=wk_take (n:=lenL a.ms) this
   rwa [<-List.map_take]at this
  have hlen:(us.drop (lenL a.ms)).length=(flat (argsG as (Tp.tl a.t _ x))).length:=by
   rw[List.length_drop,hl,flat];omega
  cases hp:a.ptr with
  | true =>
   simp only[inBX,hp]at hB
   have ih:=inAX_ok as (Tp.tl a.t _ x) _ _ (b+1) h3 hlen hdrop fun z hz=>hB z (List.mem_cons_of_mem _ hz)
   have hb:=hB _ List.mem_cons_self
   simp only at hb
   simp only[argsG,mkG,hp,inV,inAX,hz]
   refine⟨?_,ih⟩
   simp only[cV,cA,cC,hb]
   exact WkC.refl _
  | false =>
   simp only[inBX,hp]at hB
   have ih:=inAX_ok as (Tp.tl a.t _ x) _ _ b h3 hlen hdrop hB
   cases hag:a.ag with
   | true =>
    simp only[argsG,mkG,hp,hag,inV,inAX,hz]
    exact⟨htake,ih⟩
   | false =>
    simp only[argsG,mkG,hp,hag,inV,inAX,hz]
    refine⟨?_,ih⟩
    have hn:a.t.n=1:=by
     rcases h2 with h2|h2
     ·rw[hp,hag]at h2;simp at h2
     ·exact Nat.eq_of_beq_eq_true h2
    match h4:us.take (lenL a.ms),h5:cs.take (lenL a.ms) with
    | [u],[c]=>rw[h4,h5]at htake;exact htake.1
    | [],[] =>
     exfalso
     have:(us.take (lenL a.ms)).length=0:=by rw[h4];rfl
     rw[List.length_take,hl,h1,hn]at this;omega
    | [],_::_=>rw[h4,h5]at htake;exact htake.elim
    | _::_,[]=>rw[h4,h5]at htake;exact htake.elim
    | [_],_::_::_=>rw[h4,h5]at htake;exact htake.2.elim
    | _::_::_,[_]=>rw[h4,h5]at htake;exact htake.2.elim
    | _::_::_,_::_::_ =>
     exfalso
     have:(us.take (lenL a.ms)).length<=1:=by rw[List.length_take,h1,hn];omega
     rw[h4]at this;simp at this
theorem inBX_keys:∀(as:List GArg) (cs:List XC) (b:Nat),((inBX as cs b).map (·.1)).Nodup/\∀z∈inBX as cs b,b<=z.1/\z.1<b+nPtr as/\∃es,z.2=(0,.bx es)/\∀e∈es,e.1=0/\e.2∈cs
 | [],_,_=>⟨List.nodup_nil,by simp [inBX]⟩
 | a::as,cs,b=>by
  cases hp:a.ptr with
  | false =>
   simp only[inBX,hp,nPtr]
   obtain⟨h1,h2⟩:=inBX_keys as (cs.drop (lenL a.ms)) b
   refine⟨h1,fun z hz=>?_⟩
   obtain⟨q1,q2,es,q3,q4⟩:=h2 z hz
   exact⟨q1,q2,es,q3,fun e he=>⟨(q4 e he).1,List.mem_of_mem_drop (q4 e he).2⟩⟩
  | true =>
   simp only[inBX,hp,nPtr]
   obtain⟨h1,h2⟩:=inBX_keys as (cs.drop (lenL a.ms)) (b+1)
   refine⟨?_,fun z hz=>?_⟩
   ·simp only[List.map_cons,List.nodup_cons]
    refine⟨fun hm=>?_,h1⟩
    obtain⟨z,hz,hz2⟩:=List.mem_map.1 hm
    have:=(h2 z hz).1
    omega
   ·rcases List.mem_cons.1 hz with rfl|hz
    ·refine⟨Nat.le_refl _,by omega,_,rfl,fun e he=>?_⟩
     obtain⟨c,hc,rfl⟩:=List.mem_map.1 he
     exact⟨rfl,List.mem_of_mem_take hc⟩
    ·obtain⟨q1,q2,es,q3,q4⟩:=h2 z hz
     exact⟨by omega,by omega,es,q3,fun e he=>⟨(q4 e he).1,List.mem_of_mem_drop (q4 e he).2⟩⟩
theorem inBX_get {R:XRs}:∀(as:List GArg) (x:Tp (argTys as)) (us:List C) (cs:List XC) (b:Nat),okG as=true->All2 (fun c x=>WkC c (cC R x)) us cs->∀r e,(r,e)∈inBX as cs b->∃y y',get (rootB (inB (argsG as x) us) b) r=some y/\cRt R e.2=some y'/\WkR y y'
 | [],_,_,_,_,_,_,r,e,h=>by simp [inBX]at h
 | a::as,x,us,cs,b,h,hw,r,e,he=>by
  simp only[okG,Bool.and_eq_true]at h
  have h1:=Nat.eq_of_beq_eq_true h.1.1
  have hz:=argsG_len (x:=Tp.hd a.t _ x) h1
  have conv:∀{us:List C} {cs:List XC},All2 (fun c x=>WkC c (cC R x)) us cs->All2 WkC us (cs.map (cC R)):=by
   intro us
   induction us with
   | nil=>intro cs h;cases cs<;>exact h
   | cons u us ih=>intro cs h;cases cs with
    | nil=>exact h.elim
    | cons c cs=>exact⟨h.1,ih h.2⟩
  have back:∀{us:List C} {cs:List XC},All2 WkC us (cs.map (cC R))->All2 (fun c x=>WkC c (cC R x)) us cs:=by
   intro us
   induction us with
   | nil=>intro cs h;cases cs<;>exact h
   | cons u us ih=>intro cs h;cases cs with
    | nil=>exact h.elim
    | cons c cs=>exact⟨h.1,ih h.2⟩
  have hdrop:All2 (fun c x=>WkC c (cC R x)) (us.drop (lenL a.ms)) (cs.drop (lenL a.ms)):=by
   refine back ?_
   rw[List.map_drop]
   exact wk_drop (conv hw)
  have htake:All2 WkC (us.take (lenL a.ms)) ((cs.take (lenL a.ms)).map (cC R)):=by
   rw[List.map_take]
   exact wk_take (conv hw)
  cases hp:a.ptr with
  | false =>
   simp only[inBX,hp]at he
   obtain⟨y,y',q⟩:=inBX_get as (Tp.tl a.t _ x) _ _ b h.2 hdrop r e he
   refine⟨y,y', ?_⟩
   simp only[argsG,mkG,hp,inB,hz]
   exact q
  | true =>
   simp only[inBX,hp]at he
   simp only[argsG,mkG,hp,inB,hz,rootB,get]
   rcases List.mem_cons.1 he with he|he
   ·simp only[Prod.mk.injEq]at he
    obtain⟨rfl,rfl⟩:=he
    rw[if_pos rfl]
    refine⟨_,_,rfl,rfl, ?_⟩
    simp only[WkR,List.map_map]
    exact htake
   ·have:=((inBX_keys as _ (b+1)).2 _ he).1
    simp only at this
    rw[if_neg (by omega)]
    exact inBX_get as (Tp.tl a.t _ x) _ _ (b+1) h.2 hdrop r e he
theorem inGX_cells (as:List GArg) (x:Tp (argTys as)) (ho:okG as=true):All2 (fun c y=>WkC c (cC (inGX as x).roots y)) (inCells (argsG as x)).1 (inL (cellG as x) 0 (fixL (cellG as x)+nPtr as)).1/\fixCs (flat (argsG as x))=fixL (cellG as x)/\(∀z∈inBX as (inL (cellG as x) 0 (fixL (cellG as x)+nPtr as)).1 (fixL (cellG as x)),lk (inGX as x).roots z.1=some z.2):=by
 have hflat:=cellG_flat as x ho
 have hfx:fixCs (flat (argsG as x))=fixL (cellG as x):=by rw[<-hflat,fixL_eq]
 have hfix:fixN (argsG as x)=fixL (cellG as x)+nPtr as:=by unfold fixN;rw[hfx,nPtr_box]
 obtain⟨a,b,n,u,d,e⟩:=inL_ok (cellG as x) 0 (fixL (cellG as x)+nPtr as) (by omega)
 have hcell:inCells (argsG as x)=inCs ((cellG as x).map encM) (0,fixL (cellG as x)+nPtr as):=by unfold inCells;rw[hflat,hfix]
 rw[<-hcell]at a b n
 obtain⟨hBk,hBz⟩:=inBX_keys as (inL (cellG as x) 0 (fixL (cellG as x)+nPtr as)).1 (fixL (cellG as x))
 have hnd:((inGX as x).roots.map (·.1)).Nodup:=by
  show (((inL (cellG as x) 0 (fixL (cellG as x)+nPtr as)).2.1++inBX as (inL (cellG as x) 0 (fixL (cellG as x)+nPtr as)).1 (fixL (cellG as x))).map (·.1)).Nodup
  rw[List.map_append,List.nodup_append]
  refine⟨d,hBk, ?_⟩
  intro p hp q hq epq
  subst epq
  obtain⟨z,hz,rfl⟩:=List.mem_map.1 hp
  obtain⟨z',hz',e2⟩:=List.mem_map.1 hq
  have h1:=e z hz
  have h2:=hBz z' hz'
  omega
 exact⟨a.mono fun c y h=>h.1 _ fun z hz=>lk_of_mem hnd (List.mem_append_left _ hz),hfx,fun z hz=>lk_of_mem hnd (List.mem_append_right _ hz)⟩
theorem inGX_ok (as:List GArg) (x:Tp (argTys as)) (ho:okG as=true):XOk (inGX as x)/\SimX (inGX as x) ⟨env0 0 (inAs (argsG as x)).1,(inAs (argsG as x)).2.1,(inAs (argsG as x)).2.2,fixN (argsG as x)⟩:=by
 have hflat:=cellG_flat as x ho
 have hfx:fixCs (flat (argsG as x))=fixL (cellG as x):=by rw[<-hflat,fixL_eq]
 have hfix:fixN (argsG as x)=fixL (cellG as x)+nPtr as:=by unfold fixN;rw[hfx,nPtr_box]
 obtain⟨a,b,n,u,d,e⟩:=inL_ok (cellG as x) 0 (fixL (cellG as x)+nPtr as) (by omega)
 have hcell:inCells (argsG as x)=inCs ((cellG as x).map encM) (0,fixL (cellG as x)+nPtr as):=by unfold inCells;rw[hflat,hfix]
 rw[<-hcell]at a b n
 obtain⟨hBk,hBz⟩:=inBX_keys as (inL (cellG as x) 0 (fixL (cellG as x)+nPtr as)).1 (fixL (cellG as x))
 -- all the roots' names
 have hnd:((inGX as x).roots.map (·.1)).Nodup:=by
  show (((inL (cellG as x) 0 (fixL (cellG as x)+nPtr as)).2.1++inBX as (inL (cellG as x) 0 (fixL (cellG as x)+nPtr as)).1 (fixL (cellG as x))).map (·.1)).Nodup
  rw[List.map_append,List.nodup_append]
  refine⟨d,hBk, ?_⟩
  intro p hp q hq epq
  subst epq
  obtain⟨z,hz,rfl⟩:=List.mem_map.1 hp
  obtain⟨z',hz',e2⟩:=List.mem_map.1 hq
  have h1:=e z hz
  have h2:=hBz z' hz'
  omega
 have hlt:∀z∈(inGX as x).roots,z.1<(inGX as x).next:=by
  intro z hz
  show z.1<(inL _ _ _).2.2
  rcases List.mem_append.1 hz with hz|hz
  ·have:=e z hz;omega
  ·have:=(hBz z hz).2.1;omega
 have hlkL:∀z∈(inL (cellG as x) 0 (fixL (cellG as x)+nPtr as)).2.1,lk (inGX as x).roots z.1=some z.2:=fun z hz=>lk_of_mem hnd (List.mem_append_left _ hz)
 have hlkB:∀z∈inBX as (inL (cellG as x) 0 (fixL (cellG as x)+nPtr as)).1 (fixL (cellG as x)),lk (inGX as x).roots z.1=some z.2:=fun z hz=>lk_of_mem hnd (List.mem_append_right _ hz)
 have hcells:All2 (fun c y=>WkC c (cC (inGX as x).roots y)) (inCells (argsG as x)).1 (inL (cellG as x) 0 (fixL (cellG as x)+nPtr as)).1:=a.mono fun c y h=>h.1 _ hlkL
 have hcok:∀c∈(inL (cellG as x) 0 (fixL (cellG as x)+nPtr as)).1,okC (inGX as x).roots (inGX as x).next (inGX as x).stamp c:=by
  intro c hc
  obtain⟨c',_,h⟩:=all2_mem a c hc
  exact h.2 _ _ _ fun z hz=>hlt z (List.mem_append_left _ hz)
 have hulen:(inCells (argsG as x)).1.length=(flat (argsG as x)).length:=by
  rw[hcell,<-hflat]
  have key:∀(l:List (M×D)) (k:Kk),(inCs l k).1.length=l.length:=by
   intro l
   induction l with
   | nil=>intro k;rfl
   | cons a l ih=>intro k;obtain⟨m,d⟩:=a;simp only[inCs,List.length_cons,ih]
  exact key _ _
 have hargs:=inAX_ok (R:=(inGX as x).roots) as x (inCells (argsG as x)).1 _ (fixL (cellG as x)) ho hulen hcells hlkB
 have hAok:∀y∈inAX as (inL (cellG as x) 0 (fixL (cellG as x)+nPtr as)).1 (fixL (cellG as x)),okA (inGX as x).roots (inGX as x).next (inGX as x).stamp y:=by
  have key:∀(bs:List GArg) (cs:List XC) (b:Nat),(∀c∈cs,okC (inGX as x).roots (inGX as x).next (inGX as x).stamp c)->(b+nPtr bs<=(inGX as x).next)->∀y∈inAX bs cs b,okA (inGX as x).roots (inGX as x).next (inGX as x).stamp y:=by
   intro bs
   induction bs with
   | nil=>intro cs b _ _ y hy;simp [inAX]at hy
   | cons a bs ih =>
    intro cs b hc hb y hy
    cases hp:a.ptr with
    | true =>
     simp only[inAX,hp,List.mem_cons]at hy
     simp only[nPtr,hp]at hb
     rcases hy with rfl|hy
     ·show b<(inGX as x).next;omega
     ·exact ih _ (b+1) (fun c h=>hc c (List.mem_of_mem_drop h)) (by omega) y hy
    | false =>
     simp only[inAX,hp,List.mem_cons]at hy
     simp only[nPtr,hp]at hb
     rcases hy with rfl|hy
     ·cases a.ag with
      | true=>exact fun c h=>hc c (List.mem_of_mem_take h)
      | false =>
       simp only
       split
       ·rename_i c h4
        exact hc c (List.mem_of_mem_take (i:=lenL a.ms) (by rw[h4];exact List.mem_cons_self))
       ·exact fun c h=>by simp at h
     ·exact ih _ b (fun c h=>hc c (List.mem_of_mem_drop h)) hb y hy
  refine key as _ _ hcok ?_
  show _<=(inL _ _ _).2.2
  omega
 have hst0:∀r s z,lk (inGX as x).roots r=some (s,z)->s=0:=by
  intro r s z hl
  have hm:=lk_mem hl
  rcases List.mem_append.1 hm with hm|hm
  ·obtain⟨y,_,h⟩:=all2_mem b _ hm;exact h.2.1
  ·obtain⟨es,h,_⟩:=(hBz _ hm).2.2
   simp only[Prod.mk.injEq]at h;exact h.1
 refine⟨⟨?_, ?_, ?_, ?_⟩,⟨?_,hfix, ?_, ?_⟩⟩
 ·intro r s z hl
  exact⟨hlt _ (lk_mem hl),by rw[hst0 r s z hl];exact Nat.lt_succ_self 0⟩
 ·intro t s v hl
  obtain⟨y,rfl,rfl,_,h4⟩:=envA_lk hl
  exact⟨Nat.lt_succ_self 0,hAok y (List.mem_of_getElem? h4)⟩
 ·intro r s cs hl en hen
  have hm:=lk_mem hl
  rcases List.mem_append.1 hm with hm|hm
  ·obtain⟨y,_,h⟩:=all2_mem b _ hm
   rcases h.2.2 with ⟨t,xs,h,_⟩|⟨t,xs,h,_⟩<;>simp at h
  ·obtain⟨es,h,h2⟩:=(hBz _ hm).2.2
   simp only[Prod.mk.injEq,XR.bx.injEq]at h
   obtain⟨_,rfl⟩:=h
   obtain⟨q1,q2⟩:=h2 en hen
   exact⟨by rw[q1];exact Nat.lt_succ_self 0,hcok _ q2⟩
 ·show fixL (cellG as x)+nPtr as<=(inL _ _ _).2.2
  exact u
 ·exact n
 ·intro t s v hl
  obtain⟨y,rfl,rfl,_,h4⟩:=envA_lk hl
  right
  obtain⟨i,hi,hget⟩:=List.getElem_of_mem (List.mem_of_getElem? h4)
  have hlen:=hargs.length
  rw[Nat.sub_zero]at h4
  have ht:t<(inAX as (inL (cellG as x) 0 (fixL (cellG as x)+nPtr as)).1 (fixL (cellG as x))).length:=(List.getElem?_eq_some_iff.1 h4).1
  have hv:(inV (argsG as x) (inCells (argsG as x)).1 (fixL (cellG as x)))[t]? = some (inV (argsG as x) (inCells (argsG as x)).1 (fixL (cellG as x)))[t]:=List.getElem?_eq_getElem (by omega)
  obtain⟨y',q1,q2⟩:=hargs.get t _ hv
  rw[h4]at q1
  simp only[Option.some.injEq]at q1
  subst q1
  refine⟨_,env0_of (Nat.zero_le _) ?_,q2⟩
  rw[Nat.sub_zero]
  show (inV (argsG as x) (inCells (argsG as x)).1 (fixCs (flat (argsG as x))))[t]? = _
  rw[hfx];exact hv
 ·intro r s z hl y hy
  have hm:=lk_mem hl
  have hroots:(inAs (argsG as x)).2.1=(inCells (argsG as x)).2.1++rootB (inB (argsG as x) (inCells (argsG as x)).1) (fixL (cellG as x)):=by show _++rootB _ (fixCs _)=_;rw[hfx]
  show ∃y',get (inAs (argsG as x)).2.1 r=some y'/\WkR y' y
  rw[hroots,get_append]
  have hkeys:=all2_keys b
  rcases List.mem_append.1 hm with hm|hm
  ·obtain⟨y0,hy0,h⟩:=all2_mem b _ hm
   have hg:get (inCells (argsG as x)).2.1 r=some y0.2:=get_of_mem (by rw[hkeys];exact d) (by rw[<-show y0.1=r from h.1];exact hy0)
   rw[hg]
   refine⟨_,rfl, ?_⟩
   rcases h.2.2 with ⟨t,xs,h1,h2⟩|⟨t,xs,h1,h2⟩
   ·simp only at h1;subst h1
    simp only[cRt,Option.some.injEq]at hy;subst hy
    rw[h2];exact⟨rfl,rfl⟩
   ·simp only at h1;subst h1
    simp only[cRt,Option.some.injEq]at hy;subst hy
    rw[h2];exact⟨rfl,rfl⟩
  ·have hno:get (inCells (argsG as x)).2.1 r=none:=by
    cases hq:get (inCells (argsG as x)).2.1 r with
    | none=>rfl
    | some w =>
     exfalso
     have h1:r∈(inCells (argsG as x)).2.1.map (·.1):=List.mem_map.2 ⟨_,mem_of_get hq,rfl⟩
     rw[hkeys]at h1
     obtain⟨z1,hz1,e1⟩:=List.mem_map.1 h1
     have h2:=e z1 hz1
     have h3:=hBz _ hm
     simp only at h3
     omega
   rw[hno]
   obtain⟨y1,y2,g1,g2,g3⟩:=inBX_get (R:=(inGX as x).roots) as x (inCells (argsG as x)).1 _ (fixL (cellG as x)) ho hcells r (s,z) hm
   simp only at g2
   rw[hy]at g2
   simp only[Option.some.injEq]at g2
   subst g2
   exact⟨y1,g1,g3⟩
end Go.Vs
namespace Go.Vs
variable [Glb]
theorem readL_ok {β:Type}{out:β}{R:XRs}{nx st:Nat}:∀(ts:List Ty) (cs:List XC) (k:List Sg->List XC->Option β),(∀c∈cs,okC R nx st c)->readL R ts cs k=some out ->
  ∃vs cs0 rest,cs=cs0++rest/\k vs rest=some out/\All2 (CD R) cs0 (vs.flatMap encS)/\vs.map (·.1)=ts
 | [],cs,k,ho,h=>⟨[],[],cs,rfl,h,trivial,rfl⟩
 | t::ts,cs,k,ho,h=>by
  simp only[readL]at h
  obtain⟨x,c0,c1,rfl,h1,h2⟩:=readT_ok t cs _ out ho h
  obtain⟨vs,d0,d1,rfl,h3,h4,h5⟩:=readL_ok ts c1 _ (fun c hc=>ho c (List.mem_append_right _ hc)) h1
  exact⟨⟨t,x⟩::vs,c0++d0,d1,by simp,h3,by simp only[List.flatMap_cons,encS];exact All2.append h2 h4,by simp [h5]⟩
theorem ioOut_ok {β:Type}{out:β}{X:XSt}{S:St}(hS:SimX X S):∀(l:List (M×XD)) (n:Nat) (k:List Sg->List Nat->Option β),ioOut X.roots l n k=some out ->
  ∃vs ids,k vs ids=some out/\∀rt:List (Nat×Root),(∀r∈ids,get rt r=get S.roots r)->All2 (fun (x:Nat×Nat×Nat) (o:Nat×List (List D))=>get rt x.1=some (.tr o.1 o.2)/\o.1=x.2.1/\o.2.length=x.2.2) (ioOf (l.map encM) n) (vs.map ioG)
 | [],n,k,h=>⟨[],[],h,fun rt _=>trivial⟩
 | (m,.lf c)::l,n,k,h=>by
  simp only[ioOut]at h
  obtain⟨vs,ids,h1,h2⟩:=ioOut_ok hS l n k h
  refine⟨vs,ids,h1,fun rt hr=>?_⟩
  have:ioOf (((m,XD.lf c)::l).map encM) n=ioOf (l.map encM) n:=by cases c<;>cases m<;>rfl
  rw[this];exact h2 rt hr
 | (m,.sl t xs)::l,n,k,h=>by
  simp only[ioOut]at h
  cases m with
  | io =>
   simp only at h
   split at h
   ·rename_i s t' ys hl
    obtain⟨ys',h,rfl,g3,g4⟩:=cast_some h
    obtain⟨hn,h⟩:=chk_some h
    simp only[nEq,decide_eq_true_eq]at hn
    obtain⟨vs,ids,h1,h2⟩:=ioOut_ok hS l (n+1) _ h
    refine⟨_,_,h1,fun rt hr=>?_⟩
    obtain⟨y,y1,y2⟩:=hS.roots n s _ hl _ rfl
    have hg:get S.roots n=some (.tr t'.n (ys.map (encT t'))):=by
     cases y with
     | tr _ _=>obtain⟨rfl,rfl⟩:=y2;exact y1
     | _=>exact y2.elim
    refine⟨⟨?_,rfl, ?_⟩,h2 rt fun r hr'=>hr r (List.mem_cons_of_mem _ hr')⟩
    ·simp only[ioG]
     rw[hr n List.mem_cons_self,hg,g3]
    ·simp only[ioG,List.length_map];exact hn
   ·simp at h
  | rx =>
   simp only at h
   obtain⟨vs,ids,h1,h2⟩:=ioOut_ok hS l (n+1) k h
   exact⟨vs,ids,h1,h2⟩
  | rd =>
   simp only at h
   obtain⟨vs,ids,h1,h2⟩:=ioOut_ok hS l n k h
   exact⟨vs,ids,h1,h2⟩
  | ow =>
   simp only at h
   obtain⟨vs,ids,h1,h2⟩:=ioOut_ok hS l n k h
   exact⟨vs,ids,h1,h2⟩
theorem pickB_ok {R0 R:XRs}(hold:∀r z,lk R r=some (0,z)->lk R0 r=some (0,z)):∀(ms:List M) (ts:List Ty) (ds:List D) (es:List (Nat×XC)) (ps:List XC) (us ys:List C) (cs0:List XC),(∀(j:Nat) (m:M) (d:D) (ty:Ty),ms[j]? = some m->ds[j]? = some d->ts[j]? = some ty->isRx (m,d)=(match m,isLT ty with|.rx,true=>true|_,_=>false))->ms.length=ds.length->ds.length=ts.length ->
  pickB R ms ts es=some ps->All2 WkC us (cs0.map (cC R0))->us.length=ms.length->All2 WkC ys (es.map fun e=>cC R e.2)->(∀(c:Nat) (e:Nat×XC),es[c]? = some e->e.1=0->cs0[c]? = some e.2) ->
  rdSame (ms.zip ds) us ys/\All2 WkC (owPick (ms.zip ds) ys) (ps.map (cC R))/\∀p∈ps,∃e∈es,e.2=p
 | [],[],[],es,ps,us,ys,cs0,_,_,_,h,hu,hul,hy,_=>by
  cases es with
  | cons e es=>simp [pickB]at h
  | nil =>
   simp only[pickB,Option.some.injEq]at h;subst h
   cases us with
   | cons _ _=>simp at hul
   | nil=>cases ys with
    | nil=>exact⟨trivial,trivial,by simp⟩
    | cons _ _=>exact hy.elim
 | m::ms,t::ts,d::ds,es,ps,us,ys,cs0,hr,h1,h2,h,hu,hul,hy,hc=>by
  cases es with
  | nil=>simp [pickB]at h
  | cons e es =>
   simp only[List.length_cons,Nat.add_right_cancel_iff]at h1 h2 hul
   cases us with
   | nil=>simp at hul
   | cons u us =>
   simp only[List.length_cons,Nat.add_right_cancel_iff]at hul
   cases cs0 with
   | nil=>exact hu.elim
   | cons c0 cs0 =>
   cases ys with
   | nil=>exact hy.elim
   | cons y ys =>
   have hr0:=hr 0 m d t rfl rfl rfl
   have hr':∀(j:Nat) (m:M) (d:D) (ty:Ty),ms[j]? = some m->ds[j]? = some d->ts[j]? = some ty->isRx (m,d)=(match m,isLT ty with|.rx,true=>true|_,_=>false):=fun j m d ty a b c=>hr (j+1) m d ty (by simpa using a) (by simpa using b) (by simpa using c)
   have hc':∀(c:Nat) (e':Nat×XC),es[c]? = some e'->e'.1=0->cs0[c]? = some e'.2:=fun c e' he h0=>by simpa using hc (c+1) e' (by simpa using he) h0
   have stay:isRx (m,d)=true->(match stayC R e with|true=>pickB R ms ts es|false=>none)=some ps->rdSame ((m::ms).zip (d::ds)) (u::us) (y::ys)/\All2 WkC (owPick ((m::ms).zip (d::ds)) (y::ys)) (ps.map (cC R))/\∀p∈ps,∃e'∈e::es,e'.2=p:=by
    intro hx h
    split at h
    ·rename_i hst
     unfold stayC at hst
     split at hst
     ·rename_i r he1 he2
      split at hst
      ·rename_i t0 xs0 hz
       obtain⟨q1,q2,q3⟩:=pickB_ok hold ms ts ds es ps us ys cs0 hr' h1 h2 h hu.2 hul hy.2 hc'
       have hc0:=hc 0 e rfl he1
       simp only[List.getElem?_cons_zero,Option.some.injEq]at hc0
       subst hc0
       have hz0:=hold r _ hz
       have e1:cC R0 e.2=.rf r [] t0.n 0 xs0.length:=by rw[he2];simp only[cC,hz0]
       have e2:cC R e.2=.rf r [] t0.n 0 xs0.length:=by rw[he2];simp only[cC,hz]
       have a1:u=.rf r [] t0.n 0 xs0.length:=by have:=hu.1;rw[e1]at this;exact this.eq (by simp)
       have a2:y=.rf r [] t0.n 0 xs0.length:=by have:=hy.1;simp only[e2]at this;exact this.eq (by simp)
       refine⟨?_, ?_,fun p hp=>by obtain⟨e',h1,h2⟩:=q3 p hp;exact⟨e',List.mem_cons_of_mem _ h1,h2⟩⟩
       ·simp only[List.zip_cons_cons,rdSame]
        exact⟨fun _=>by rw[a1,a2],q1⟩
       ·simp only[List.zip_cons_cons,owPick,hx,if_true];exact q2
      ·simp at hst
     ·simp at hst
    ·simp at h
   have go:isRx (m,d)=false->(match pickB R ms ts es with|some cs=>some (e.2::cs)|none=>none)=some ps->rdSame ((m::ms).zip (d::ds)) (u::us) (y::ys)/\All2 WkC (owPick ((m::ms).zip (d::ds)) (y::ys)) (ps.map (cC R))/\∀p∈ps,∃e'∈e::es,e'.2=p:=by
    intro hx h
    split at h
    ·rename_i cs hp
     simp only[Option.some.injEq]at h;subst h
     obtain⟨q1,q2,q3⟩:=pickB_ok hold ms ts ds es cs us ys cs0 hr' h1 h2 hp hu.2 hul hy.2 hc'
     refine⟨?_, ?_, ?_⟩
     ·simp only[List.zip_cons_cons,rdSame]
      exact⟨fun h=>by rw[hx]at h;simp at h,q1⟩
     ·simp only[List.zip_cons_cons,owPick,hx,Bool.false_eq_true,if_false]
      exact⟨hy.1,q2⟩
     ·intro p hp
      rcases List.mem_cons.1 hp with rfl|hp
      ·exact⟨e,List.mem_cons_self,rfl⟩
      ·obtain⟨e',h1,h2⟩:=q3 p hp;exact⟨e',List.mem_cons_of_mem _ h1,h2⟩
    ·simp at h
   cases m with
   | rx =>
    cases hT:isLT t with
    | true =>
     simp only[hT]at hr0
     simp only[pickB,hT]at h
     exact stay hr0 h
    | false =>
     simp only[hT]at hr0
     simp only[pickB,hT]at h
     exact go hr0 h
   | _=>simp only[pickB]at h;exact go hr0 h
 | [],_::_,ds,_,_,_,_,_,_,h1,h2,_,_,_,_,_=>by rw[<-h1]at h2;simp at h2
 | _::_,[],ds,_,_,_,_,_,_,h1,h2,_,_,_,_,_=>by rw[List.length_nil]at h2;rw[h2]at h1;simp at h1
 | [],[],_::_,_,_,_,_,_,_,h1,_,_,_,_,_,_=>by simp at h1
 | _::_,_::_,[],_,_,_,_,_,_,h1,_,_,_,_,_,_=>by simp at h1
theorem picksB_ok {R0:XRs}{X:XSt}{S:St}(hS:SimX X S) (hX:XOk X) (hold:∀r s z,lk X.roots r=some (s,z)->s<1->lk R0 r=some (s,z)) (hcold:∀r s cs,lk X.roots r=some (s,.bx cs)->∀(c:Nat) (e:Nat×XC),cs[c]? = some e->e.1<1->∃s0 cs0,lk R0 r=some (s0,.bx cs0)/\cs0[c]? = some e) :
  ∀(as:List GArg) (x:Tp (argTys as)) (us:List C) (cs:List XC) (b:Nat) (ps:List XC),okG as=true->us.length=(flat (argsG as x)).length->All2 (fun c y=>WkC c (cC R0 y)) us cs->(∀z∈inBX as cs b,lk R0 z.1=some z.2)->picksB X.roots as b=some ps ->
  ∃bxs,All2 (fun x ys=>rdSame x.1 x.2 ys) (inB (argsG as x) us) bxs/\(∀(j:Nat) (ys:List C),bxs[j]? = some ys->get S.roots (b+j)=some (.bx ys))/\All2 WkC (((inB (argsG as x) us).zip bxs).flatMap fun x=>owPick x.1.1 x.2) (ps.map (cC X.roots))/\(∀p∈ps,okC X.roots X.next X.stamp p) /\
   ∀vb:List Sg,vb.map (·.1)=bxTys as->((inB (argsG as x) us).zip bxs).map (fun x=>(owPick x.1.1 x.2).length)=(bxG as vb).map (·.length)
 | [],x,us,cs,b,ps,_,_,_,_,h=>by
  simp only[picksB,Option.some.injEq]at h;subst h
  exact⟨[],trivial,by simp,trivial,by simp,fun vb _=>rfl⟩
 | a::as,x,us,cs,b,ps,ho,hl,hw,hB,h=>by
  simp only[okG,Bool.and_eq_true]at ho
  have h1:=Nat.eq_of_beq_eq_true ho.1.1
  have hz:=argsG_len (x:=Tp.hd a.t _ x) h1
  have hcell:(mkG a (Tp.hd a.t _ x)).cells=a.ms.zip (encT a.t (Tp.hd a.t _ x)):=by simp only[mkG];cases a.ptr<;>rfl
  simp only[flat,argsG,List.flatMap_cons,List.length_append,hcell,hz]at hl
  have conv:∀{us:List C} {cs:List XC},All2 (fun c x=>WkC c (cC R0 x)) us cs->All2 WkC us (cs.map (cC R0)):=by
   intro us
   induction us with
   | nil=>intro cs h;cases cs<;>exact h
   | cons u us ih=>intro cs h;cases cs with
    | nil=>exact h.elim
    | cons c cs=>exact⟨h.1,ih h.2⟩
  have back:∀{us:List C} {cs:List XC},All2 WkC us (cs.map (cC R0))->All2 (fun c x=>WkC c (cC R0 x)) us cs:=by
   intro us
   induction us with
   | nil=>intro cs h;cases cs<;>exact h
   | cons u us ih=>intro cs h;cases cs with
    | nil=>exact h.elim
    | cons c cs=>exact⟨h.1,ih h.2⟩
  have hdrop:All2 (fun c x=>WkC c (cC R0 x)) (us.drop (lenL a.ms)) (cs.drop (lenL a.ms)):=by
   refine back ?_
   rw[List.map_drop]
   exact wk_drop (conv hw)
  have htake:All2 WkC (us.take (lenL a.ms)) ((cs.take (lenL a.ms)).map (cC R0)):=by
   rw[List.map_take]
   exact wk_take (conv hw)
  have hlen:(us.drop (lenL a.ms)).length=(flat (argsG as (Tp.tl a.t _ x))).length:=by
   rw[List.length_drop,hl,flat];omega
  simp only[picksB]at h
  cases hp:a.ptr with
  | false =>
   simp only[hp]at h
   simp only[inBX,hp]at hB
   obtain⟨bxs,q1,q2,q3,q4,q5⟩:=picksB_ok hS hX hold hcold as (Tp.tl a.t _ x) _ _ b ps ho.2 hlen hdrop hB h
   refine⟨bxs, ?_,q2, ?_,q4,fun vb hv=>?_⟩
   ·simp only[argsG,mkG,hp,inB,hz];exact q1
   ·simp only[argsG,mkG,hp,inB,hz];exact q3
   ·simp only[bxTys,hp]at hv
    simp only[argsG,mkG,hp,inB,hz,bxG];exact q5 vb hv
  | true =>
   simp only[hp]at h
   simp only[inBX,hp]at hB
   split at h
   ·rename_i s es hlk
    split at h
    ·rename_i p1 p2 hpk hps
     split at h
     ·rename_i hcnt
      simp only[Option.some.injEq]at h;subst h
      obtain⟨hcnt,hnH⟩:=Bool.and_eq_true_iff.1 hcnt
      have hcnt:=Nat.eq_of_beq_eq_true hcnt
      obtain⟨ys,g1,g2⟩:=box_sim hS hlk
      have hb0:=hB _ List.mem_cons_self
      simp only at hb0
      obtain⟨w1,w2,w3⟩:=pickB_ok (R0:=R0) (R:=X.roots) (fun r z hz'=>hold r 0 z hz' (by omega)) a.ms (cts a.t) (encT a.t (Tp.hd a.t _ x)) es p1 (us.take (lenL a.ms)) ys (cs.take (lenL a.ms))
       (fun j m d ty _ hd ht=>isRx_T hnH hd ht) (by rw[encT_len,<-h1,lenL_eq]) (by rw[encT_len,cts_len]) hpk htake (by rw[List.length_take,<-lenL_eq a.ms];omega) g2 (by
        intro c e he h0
        obtain⟨s0,cs0,k1,k2⟩:=hcold b s es hlk c e he (by omega)
        rw[hb0]at k1
        simp only[Option.some.injEq,Prod.mk.injEq,XR.bx.injEq]at k1
        rw[<-k1.2,List.getElem?_map,Option.map_eq_some_iff]at k2
        obtain⟨c',k3,rfl⟩:=k2
        exact k3)
      obtain⟨bxs,q1,q2,q3,q4,q5⟩:=picksB_ok hS hX hold hcold as (Tp.tl a.t _ x) _ _ (b+1) p2 ho.2 hlen hdrop (fun z hz'=>hB z (List.mem_cons_of_mem _ hz')) hps
      refine⟨ys::bxs, ?_, ?_, ?_, ?_,fun vb hv=>?_⟩
      ·simp only[argsG,mkG,hp,inB,hz];exact⟨w1,q1⟩
      ·intro j zs hj
       cases j with
       | zero=>simp only[List.getElem?_cons_zero,Option.some.injEq]at hj;subst hj;exact g1
       | succ j=>rw[show b+(j+1)=b+1+j by omega];exact q2 j zs (by simpa using hj)
      ·simp only[argsG,mkG,hp,inB,hz,List.zip_cons_cons,List.flatMap_cons,List.map_append]
       exact wk_app w2 q3
      ·intro p hp'
       rcases List.mem_append.1 hp' with hp'|hp'
       ·obtain⟨e,he,rfl⟩:=w3 p hp'
        exact (hX.box b s es hlk e he).2
       ·exact q4 p hp'
      ·simp only[bxTys,hp]at hv
       have hw2:=w2.length
       rw[List.length_map]at hw2
       simp only[argsG,mkG,hp,inB,hz,List.zip_cons_cons,List.map_cons,hw2,hcnt]
       cases hoo:a.o with
       | none =>
        simp only[hoo,optT,appT]at hv
        simp only[bxG,hp,hoo,List.map_cons,List.length_nil,optN,q5 vb hv]
       | some t =>
        simp only[hoo,optT,appT]at hv
        cases vb with
        | nil=>simp at hv
        | cons v vb =>
         simp only[List.map_cons,List.cons.injEq]at hv
         simp only[bxG,hp,hoo,List.map_cons,optN,encS,encT_len,hv.1,q5 vb hv.2]
     ·simp at h
    ·simp at h
   ·simp at h
theorem leaveG_ok {as:List GArg}{rs:List (Bool×Ty)}{x:Tp (argTys as)}{X:XSt}{S:St}{is:List I}{y:Tp (outTys as rs)}{E:List (Nat×Nat×XV)}(ho:okG as=true) (hX:XOk X) (hE:Ext ⟨E,(inGX as x).roots,(inGX as x).next,(inGX as x).stamp,(inGX as x).fix⟩ X) (hS:SimX X S) (h:leaveG as rs x X is=some y):resK S is fun xs=>Leaves (argsG as x) (outG as rs (spread _ y)) S.roots (resV xs):=by
 obtain⟨c1,c2,c3⟩:=inGX_cells as x ho
 unfold leaveG at h
 obtain⟨xs,ys,h,h1,h2,h3⟩:=exitX_ok hX hS is _ h
 split at h
 ·rename_i ps hsh hps
  split at h
  ·rename_i ids hids
   split at h
   ·rename_i hnd
    have hulen:(inCells (argsG as x)).1.length=(flat (argsG as x)).length:=by
     have key:∀(l:List (M×D)) (k:Kk),(inCs l k).1.length=l.length:=by
      intro l
      induction l with
      | nil=>intro k;rfl
      | cons a l ih=>intro k;obtain⟨m,d⟩:=a;simp only[inCs,List.length_cons,ih]
     exact key _ _
    obtain⟨bxs,b1,b2,b3,b4,b5⟩:=picksB_ok (R0:=(inGX as x).roots) hS hX (fun r s z hl hs=>hE.roots r s z hl hs) (fun r s cs hl c e he hs=>hE.cells r s cs hl c e he hs) as x _ _ _ ps ho hulen c1 c3 hps
    have hcok:=cellsAs_ok h2
    obtain⟨vr,d0,d1,hd,h,hcr,htr⟩:=readL_ok _ _ _ hcok h
    split at h
    ·rw[List.append_nil]at hd
     subst hd
     obtain⟨vio,ios,h,hio⟩:=ioOut_ok hS _ _ _ h
     split at h
     ·rename_i hdj
      obtain⟨vb,e0,e1,he,h,hcb,htb⟩:=readL_ok _ _ _ b4 h
      split at h
      ·rw[List.append_nil]at he
       subst he
       obtain⟨y',hy,hsp⟩:=coll_some _ _ _ h
       simp only[Option.some.injEq]at hy
       subst hy
       have hT:outTys as rs=resTys rs++(ioTys as++bxTys as):=by simp only[outTys,appT_eq]
       have htys:=spread_tys _ y'
       rw[hsp,hT,List.map_append,List.map_append,htr,htb]at htys
       have htio:vio.map (·.1)=ioTys as:=by
        have:=List.append_cancel_left htys
        exact List.append_cancel_right this
       have hrl:(resTys rs).length=rs.length:=by
        have key:∀rs:List (Bool×Ty),(resTys rs).length=rs.length:=by
         intro rs;induction rs with
         | nil=>rfl
         | cons r rs ih=>simp only[resTys,List.length_cons,ih]
        exact key _
       have hvrl:vr.length=lenL rs:=by rw[lenL_eq,<-hrl,<-htr,List.length_map]
       have hviol:vio.length=lenL (ioTys as):=by rw[lenL_eq,<-htio,List.length_map]
       have hout:outG as rs (spread _ y')=⟨resG rs vr,vio.map ioG,bxG as vb⟩:=by
        simp only[outG,hsp]
        rw[List.take_left' hvrl,List.drop_left' hvrl,List.take_left' hviol,List.drop_left' hviol]
       rw[hout]
       -- shapes
       have shape:∀(rs:List (Bool×Ty)) (vr:List Sg) (xs:List XA) (ys:List A),vr.map (·.1)=resTys rs->shapeX rs xs=true->All2 WkA ys (xs.map (cA X.roots))->ys.map (fun x=>((cellsA x).1,(cellsA x).2.length))=(resG rs vr).map (fun x=>(x.1,x.2.length))/\All2 WkC (ys.flatMap fun x=>(cellsA x).2) ((cellsAs xs).map (cC X.roots)):=by
        intro rs
        induction rs with
        | nil =>
         intro vr xs ys _ hs hw
         cases xs with
         | cons _ _=>simp [shapeX]at hs
         | nil=>cases ys with
          | cons _ _=>exact hw.elim
          | nil=>cases vr<;>exact⟨rfl,trivial⟩
        | cons r rs ih =>
         intro vr xs ys hv hs hw
         obtain⟨ag,t⟩:=r
         cases vr with
         | nil=>simp [resTys]at hv
         | cons v vr =>
          simp only[List.map_cons,resTys,List.cons.injEq]at hv
          have hn:(encS v).length=t.n:=by rw[encS,encT_len,hv.1]
          cases xs with
          | nil=>cases ag<;>simp [shapeX]at hs
          | cons x xs =>
           cases ys with
           | nil=>exact hw.elim
           | cons z ys =>
            cases ag with
            | false=>cases x with
             | ag cs=>simp [shapeX]at hs
             | c c =>
              simp only[shapeX,Bool.and_eq_true]at hs
              obtain⟨a,b⟩:=ih vr xs ys hv.2 hs.2 hw.2
              cases z with
              | ag _=>exact hw.1.elim
              | c z =>
               refine⟨?_,⟨hw.1,b⟩⟩
               rw[List.map_cons,a]
               simp only[resG,List.map_cons,cellsA,hn,Nat.eq_of_beq_eq_true hs.1,List.length_cons,List.length_nil]
            | true=>cases x with
             | c c=>simp [shapeX]at hs
             | ag cs =>
              simp only[shapeX,Bool.and_eq_true]at hs
              obtain⟨a,b⟩:=ih vr xs ys hv.2 hs.2 hw.2
              cases z with
              | c z=>exact hw.1.elim
              | ag zs =>
               have hl:=All2.length (show All2 WkC zs (cs.map (cC X.roots)) from hw.1)
               rw[List.length_map]at hl
               refine⟨?_, ?_⟩
               ·rw[List.map_cons,a]
                simp only[resG,List.map_cons,cellsA,hn,hl,Nat.eq_of_beq_eq_true hs.1]
               ·simp only[List.flatMap_cons,cellsA,cellsAs,List.map_append]
                exact wk_app hw.1 b
       obtain⟨s1,s2⟩:=shape rs vr xs ys htr hsh h1
       obtain⟨rt,t1,t2⟩:=takeAll_sim hS _ _ ids S.roots (All2.append hcr hcb) hids (nodupN_ok hnd) (fun _ _=>rfl)
       have k1:=cd_known hcr s2
       have k2:=cd_known hcb b3
       refine h3 _ ⟨ys,compsV_resV ys,s1,bxs,b1, ?_,rt, ?_, ?_, ?_⟩
       ·intro j zs hj
        rw[c2];exact b2 j zs hj
       ·rw[k1,k2,<-List.map_append,resG_flat rs vr (by rw[hvrl,lenL_eq]),bxG_flat as vb htb]
        exact t1
       ·exact b5 vb htb
       ·rw[<-cellG_flat as x ho]
        refine hio rt fun r hr=>?_
        rw[t2 r,if_neg (disj_ok hdj r hr)]
      ·simp at h
     ·simp at h
    ·simp at h
   ·simp at h
  ·simp at h
 ·simp at h
theorem runs_of_fnG {P:Program}(hm:P.follows .mixedOrders=true){f:FuncId}{fn:Func}{s:Stm}{is:List I}{Φ:List (Fx P)}{H:List (Nat×Hn)}{an:An}{as:List GArg}{rs:List (Bool×Ty)}(hf:P.funcs[f]? = some fn) (hb:(fn.body.bind (trC P fn.ntmps))=some s) (hi:trRes P fn.results.toList=some is) (hn:Nat.ble as.length fn.ntmps=true) (ho:okG as=true)
  {x:Tp (argTys as)} {y:Tp (outTys as rs)} (h:fnG Φ H s an is as rs x=some y):Runs P f (argsG as x) (outG as rs (spread _ y)):=by
 obtain⟨c,hb,hs⟩:=body_of hb
 obtain⟨h1,h2⟩:=inGX_ok as x ho
 have hl:(argsG as x).length=as.length:=by
  have key:∀(as:List GArg) (x:Tp (argTys as)),(argsG as x).length=as.length:=by
   intro as
   induction as with
   | nil=>intro x;rfl
   | cons a as ih=>intro x;simp only[argsG,List.length_cons,ih]
  exact key _ _
 refine runs_of_sw hf hb hs hi (by rw[hl];exact Nat.le_of_ble_eq_true hn) ?_
 refine runX_ok hm s an h1 h2 h ?_
 intro e X' S' g1 g2 g3 g4
 cases e with
 | ret=>exact leaveG_ok (E:=(inGX as x).env) ho g1 g2 g3 g4
 | normal=>exact leaveG_ok (E:=(inGX as x).env) ho g1 g2 g3 g4
 | _=>simp at g4
end Go.Vs
namespace Go.Vs
variable [Glb]
end Go.Vs
namespace Go.Vs
variable [Glb]
open Go.ChangeShapes Go.WideShapes
def tileB (P:Program):Nat->List Field->Nat->Bool
 | o,[],tot=>o==tot
 | o,f::fs,tot=>f.offset==o&&tileB P (o+P.cellsOf f.type) fs tot
def good (P:Program):Nat->TypeId->Bool
 | 0,_=>false
 | n+1,t=>match P.underlying t with
  | some .bool=>true
  | some (.int _)=>true
  | some .string=>true
  | some (.slice e)=>good P n e&&decide (0<P.cellsOf e)
  | some (.struct fs)=>tileB P 0 fs.toList (P.cellsOf t)&&fs.toList.all fun f=>good P n f.type
  | _=>false
def DT (P:Program):Nat->TypeId->List D->Prop
 | 0,_,_=>False
 | n+1,t,ds=>match P.underlying t with
  | some .bool=>∃b,ds=[.lf (.bool b)]
  | some (.int k)=>∃z,ds=[.lf (.int k z)]/\(Lit.int k z).wf=true
  | some .string=>∃s:ByteArray,ds=[.lf (.string s)]/\s.size<=maxLen
  | some (.slice e)=>∃es,ds=[.sl (P.cellsOf e) es]/\es.length<=maxLen/\∀el∈es,DT P n e el
  | some (.struct fs)=>∃dss:List (List D),ds=dss.flatten/\All2 (fun (f:Field) x=>DT P n f.type x) fs.toList dss
  | _=>False
theorem fields_lie {H:Type}{P:Program}{W:World}{cs:List Value}{n:Nat}{rd:TypeId->List Value->Option (DataW H×List MemPlace)}(ih:∀t vs x,good P n t=true->rd t vs=some x->∃ds,All2 (Lies W) ds vs/\DT P n t ds) :
  ∀(fs:List Field) (xs:List (DataW H×List MemPlace)) (o:Nat),xs.length=fs.length->(∀(i:Nat) (f:Field),fs[i]? = some f->rd f.type ((cs.drop f.offset).take (P.cellsOf f.type))=xs[i]?)->tileB P o fs cs.length=true->fs.all (fun f=>good P n f.type)=true ->
   ∃dss,All2 (Lies W) dss.flatten (cs.drop o)/\All2 (fun (f:Field) x=>DT P n f.type x) fs dss
 | [],xs,o,_,_,ht,_=>by
  simp only[tileB,beq_iff_eq]at ht
  subst ht
  exact⟨[],by simp [All2],trivial⟩
 | f::fs,xs,o,hl,hx,ht,hg=>by
  simp only[tileB,Bool.and_eq_true,beq_iff_eq]at ht
  simp only[List.all_cons,Bool.and_eq_true]at hg
  cases xs with
  | nil=>simp at hl
  | cons x xs =>
   have h0:=hx 0 f rfl
   simp only[List.getElem?_cons_zero]at h0
   rw[ht.1]at h0
   obtain⟨d0,a1,a2⟩:=ih _ _ _ hg.1 h0
   obtain⟨dss,b1,b2⟩:=fields_lie ih fs xs (o+P.cellsOf f.type) (by simpa using hl) (fun i g hi=>by simpa using hx (i+1) g (by simpa using hi)) ht.2 hg.2
   refine⟨d0::dss, ?_,a2,b2⟩
   have e:cs.drop o=(cs.drop o).take (P.cellsOf f.type)++cs.drop (o+P.cellsOf f.type):=by
    rw[<-List.drop_drop,List.take_append_drop]
   rw[e,List.flatten_cons]
   exact All2.append a1 b1
theorem lies_trod {H:Type}{enc:TypeId×Value->H}{P:Program}{W:World}:∀(n:Nat) (t:TypeId) (fuel:Nat) (cs:List Value) (x:DataW H×List MemPlace),good P n t=true->DataW.trod enc P W 0 (fun _=>true) true fuel t cs=some x->∃ds,All2 (Lies W) ds cs/\DT P n t ds
 | 0,t,fuel,cs,x,hg,h=>by simp [good]at hg
 | n+1,t,fuel,cs,x,hg,h=>by
  simp only[good]at hg
  simp only[DT]
  cases hu:P.underlying t with
  | none=>simp [hu]at hg
  | some du =>
   cases du with
   | bool =>
    obtain⟨b,rfl,_⟩:=DataW.trod_bool hu h
    exact⟨[.lf (.bool b)],⟨.lf _ rfl,trivial⟩,b,rfl⟩
   | int k =>
    obtain⟨z,rfl,_,hw⟩:=DataW.trod_int hu h
    exact⟨[.lf (.int k z)],⟨.lf _ rfl,trivial⟩,z,rfl,hw⟩
   | string =>
    obtain⟨s,rfl,_,hs⟩:=DataW.trod_string hu h
    exact⟨[.lf (.string s)],⟨.lf _ rfl,trivial⟩,s,rfl,hs⟩
   | slice e =>
    simp only[hu,Bool.and_eq_true,decide_eq_true_eq]at hg
    obtain⟨hge,hsz⟩:=hg
    rcases DataW.trod_slice hu h with ⟨rfl,_⟩|⟨a,len,cap,elems,rest,m,_,rfl,_,_,hlc,hcm,hel,hE,hR,_⟩
    ·exact⟨[.sl (P.cellsOf e) []],⟨.nil _ none,trivial⟩,[],rfl,Nat.zero_le _,by simp⟩
    ·by_cases hcap:cap=0
     ·subst hcap
      have:len=0:=by omega
      subst this
      exact⟨[.sl (P.cellsOf e) []],⟨.nil _ _,trivial⟩,[],rfl,Nat.zero_le _,by simp⟩
     ·have get:∀i,i<len->∃ecs y,W.cells? 0 (a.add (i*P.cellsOf e)) (P.cellsOf e)=some ecs/\DataW.trod enc P W 0 (fun _=>true) true m e ecs=some y:=by
       intro i hi
       have h1:=hE i hi
       rw[List.getElem?_eq_getElem (by omega)]at h1
       simp only[Option.bind_eq_some_iff]at h1
       obtain⟨ecs,h2,h3⟩:=h1
       exact⟨ecs,_,h2,h3⟩
      have hspot:a.spot=none:=by
       have:∃ecs,W.cells? 0 (a.add (0*P.cellsOf e)) (P.cellsOf e)=some ecs:=by
        by_cases h0:0<len
        ·obtain⟨ecs,_,h2,_⟩:=get 0 h0;exact⟨ecs,h2⟩
        ·have hl0:len=0:=by omega
         subst hl0
         obtain⟨hr1,hr2⟩:=hR rfl
         have h1:=hr2 0 (by omega)
         rw[List.getElem?_eq_getElem (by omega)]at h1
         simp only[Option.bind_eq_some_iff]at h1
         obtain⟨ecs,h2,_⟩:=h1
         exact⟨ecs,by simpa using h2⟩
       obtain⟨ecs,h2⟩:=this
       have h3:=(World.cells?_some h2).2.2 0 hsz
       have h4:=(World.cells?_some h2).2.1
       rw[List.getElem?_eq_getElem (by omega)]at h3
       have:=World.cell?_spot h3
       simpa [Addr.add] using this
      obtain⟨b,off,spot⟩:=a
      simp only at hspot
      subst hspot
      have each:∀i,i<len->∃(ds:List D) (ecs:List Value),All2 (Lies W) ds ecs/\DT P n e ds/\ecs.length=P.cellsOf e/\∀c v,ecs[c]? = some v->W.cell? ⟨b,off+(i*P.cellsOf e+c),none⟩=some v:=by
       intro i hi
       obtain⟨ecs,y,h1,h2⟩:=get i hi
       obtain⟨ds,h3,h4⟩:=lies_trod n e m ecs y hge h2
       obtain⟨_,h5,h6⟩:=World.cells?_some h1
       refine⟨ds,ecs,h3,h4,h5,fun c v hc=>?_⟩
       have hlt:c<P.cellsOf e:=by rw[<-h5];exact (List.getElem?_eq_some_iff.1 hc).1
       have:=h6 c hlt
       rw[hc,add_plain,add_plain,Nat.add_assoc]at this
       exact this
      let fd:Nat->List D:=fun i=>if hi:i<len then Classical.choose (each i hi) else []
      let fv:Nat->List Value:=fun i=>if hi:i<len then Classical.choose (Classical.choose_spec (each i hi)) else []
      have spec:∀i (hi:i<len),All2 (Lies W) (fd i) (fv i)/\DT P n e (fd i)/\(fv i).length=P.cellsOf e/\∀c v,(fv i)[c]? = some v->W.cell? ⟨b,off+(i*P.cellsOf e+c),none⟩=some v:=by
       intro i hi
       have:=Classical.choose_spec (Classical.choose_spec (each i hi))
       simp only[fd,fv,dif_pos hi]
       exact this
      have hget:∀i el,((List.range len).map fd)[i]? = some el->i<len/\el=fd i:=by
       intro i el h1
       simp only[List.getElem?_map,Option.map_eq_some_iff]at h1
       obtain⟨j,h2,rfl⟩:=h1
       have hi:i<len:=by
        have:=(List.getElem?_eq_some_iff.1 h2).1
        simpa using this
       rw[List.getElem?_range hi]at h2
       simp only[Option.some.injEq]at h2
       subst h2
       exact⟨hi,rfl⟩
      have hmem:∀el∈(List.range len).map fd,∃i,i<len/\el=fd i:=by
       intro el hm
       obtain⟨i,hi,rfl⟩:=List.mem_map.1 hm
       exact⟨i,by simpa using hi,rfl⟩
      have key:=Lies.sl (W:=W) (P.cellsOf e) ((List.range len).map fd) b off cap (fun i c=>((fv i)[c]?).getD undef) (by simpa using hlc) ?_ ?_ ?_
      ·rw[List.length_map,List.length_range]at key
       refine⟨[.sl (P.cellsOf e) ((List.range len).map fd)],⟨key,trivial⟩,_,rfl,by simp;omega, ?_⟩
       intro el hm
       obtain⟨i,hi,rfl⟩:=hmem el hm
       exact (spec i hi).2.1
      ·intro el hm
       obtain⟨i,hi,rfl⟩:=hmem el hm
       rw[(spec i hi).1.length,(spec i hi).2.2.1]
      ·intro i c el d h1 h2
       obtain⟨hi,rfl⟩:=hget i el h1
       have hlt:c<(fv i).length:=by rw[<-(spec i hi).1.length];exact (List.getElem?_eq_some_iff.1 h2).1
       rw[List.getElem?_eq_getElem hlt]
       exact (spec i hi).2.2.2 c _ (List.getElem?_eq_getElem hlt)
      ·intro i c el d h1 h2
       obtain⟨hi,rfl⟩:=hget i el h1
       obtain⟨v,h3,h4⟩:=(spec i hi).1.get c d h2
       rw[h3]
       exact h4
   | struct fs =>
    simp only[hu,Bool.and_eq_true]at hg
    obtain⟨xs,m,rfl,_,hl,hx,hall⟩:=DataW.trod_struct hu h
    obtain⟨dss,a1,a2⟩:=fields_lie (W:=W) (cs:=cs) (n:=n) (rd:=DataW.trod enc P W 0 (fun _=>true) true m) (fun t vs x g h=>lies_trod n t m vs x g h) fs.toList xs 0 (by simpa using hx) (fun i f hi=>hall i f (by simpa using hi)) (by rw[hl];exact hg.1) hg.2
    exact⟨dss.flatten,a1,dss,rfl,a2⟩
   | _=>simp [hu]at hg
end Go.Vs
namespace Go.Vs
variable [Glb]
noncomputable def sOf (P:Program) (fn:Func):Stm:=(fn.body.bind (trC P fn.ntmps)).getD .skip
noncomputable def iOf (P:Program) (fn:Func):List I:=(trRes P fn.results.toList).getD []
def okF (P:Program) (fn:Func) (n:Nat) (ok:Bool):Bool:=match fn.body.bind (trC P fn.ntmps),trRes P fn.results.toList with
 | some _,some _=>Nat.ble n fn.ntmps&&ok
 | _,_=>false
section
variable {P:Program} {f:FuncId} {fn:Func} {Φ:List (Fx P)} {H:List (Nat×Hn)} {an:An}
theorem okF_of (hm:P.follows .mixedOrders=true){n:Nat}{ok:Bool}(h:okF P fn n ok=true):(fn.body.bind (trC P fn.ntmps))=some (sOf P fn)/\trRes P fn.results.toList=some (iOf P fn)/\Nat.ble n fn.ntmps=true/\ok=true:=by
 unfold okF at h
 split at h
 ·rename_i s is h1 h2
  simp only[Bool.and_eq_true]at h
  exact⟨by rw[sOf,h1];rfl,by rw[iOf,h2];rfl,h.1,h.2⟩
 ·simp at h
theorem runs_see (hm:P.follows .mixedOrders=true){args rs:List (Bool×Ty)}{F:Tp (args.map (·.2))->Option (Tp (rs.map (·.2)))}(hf:P.funcs[f]? = some fn) (hk:okF P fn args.length (okArgs args)=true) (h:∀x,fnX Φ H (sOf P fn) an (iOf P fn) args rs x=F x) (x:Tp (args.map (·.2))) (y:Tp (rs.map (·.2))) (hy:F x=some y):Runs P f ((argsD args x).map mkArg) ⟨argsD rs y,[],[]⟩:=by
 obtain⟨a,b,c,d⟩:=okF_of hm hk
 exact runs_of_fn (N:=0) hm hf a b c d ((h x).trans hy)
theorem runs_gen (hm:P.follows .mixedOrders=true){as:List GArg}{rs:List (Bool×Ty)}{F:Tp (argTys as)->Option (Tp (outTys as rs))}(hf:P.funcs[f]? = some fn) (hk:okF P fn as.length (okG as)=true) (h:∀x,fnG Φ H (sOf P fn) an (iOf P fn) as rs x=F x) (x:Tp (argTys as)) (y:Tp (outTys as rs)) (hy:F x=some y):Runs P f (argsG as x) (outG as rs (spread _ y)):=by
 obtain⟨a,b,c,d⟩:=okF_of hm hk
 exact runs_of_fnG hm hf a b c d ((h x).trans hy)
end
def fitFs (fit:TypeId->Ty->Bool):List Field->Ty->Bool
 | [],_=>false
 | [f],T=>fit f.type T
 | f::fs,.P a b=>fit f.type a&&fitFs fit fs b
 | _,_=>false
def fitT (P:Program):Nat->TypeId->Ty->Bool
 | 0,_,_=>false
 | n+1,t,T=>match P.underlying t with
  | some .bool=>match T with
   | .B=>true
   | _=>false
  | some (.int k)=>match T with
   | .Y=>decide (k=.u8)
   | .I k'=>decide (k=k')
   | _=>false
  | some .string=>match T with
   | .S=>true
   | _=>false
  | some (.slice e)=>match T with
   | .L T=>Nat.beq (P.cellsOf e) T.n&&fitT P n e T
   | _=>false
  | some (.struct fs)=>fitFs (fitT P n) fs.toList T
  | _=>false
def okT:(T:Ty)->T.den->Prop
 | .I k,z=>(Lit.int k z).wf=true
 | .S,l=>l.length<=maxLen
 | .L t,xs=>xs.length<=maxLen/\∀x∈xs,okT t x
 | .P a b,x=>okT a x.1/\okT b x.2
 | _,_=>True
theorem fields_fit {P:Program}{n:Nat}(ih:∀t T ds,fitT P n t T=true->DT P n t ds->∃x:T.den,ds=encT T x/\okT T x):∀(fs:List Field) (T:Ty) (dss:List (List D)),fitFs (fitT P n) fs T=true->All2 (fun (f:Field) x=>DT P n f.type x) fs dss->∃x:T.den,dss.flatten=encT T x/\okT T x
 | [],T,dss,h,_=>by simp [fitFs]at h
 | [f],T,dss,h,ha=>by
  cases dss with
  | nil=>exact ha.elim
  | cons d dss =>
   cases dss with
   | cons _ _=>exact ha.2.elim
   | nil =>
    simp only[fitFs]at h
    obtain⟨x,h1,h2⟩:=ih _ _ _ h ha.1
    exact⟨x,by simp [h1],h2⟩
 | f::g::fs,T,dss,h,ha=>by
  cases T with
  | P a b =>
   simp only[fitFs,Bool.and_eq_true]at h
   cases dss with
   | nil=>exact ha.elim
   | cons d dss =>
    obtain⟨x,h1,h2⟩:=ih _ _ _ h.1 ha.1
    obtain⟨y,h3,h4⟩:=fields_fit ih (g::fs) b dss h.2 ha.2
    exact⟨(x,y),by simp only[List.flatten_cons,h1,h3,encT],h2,h4⟩
  | _=>simp [fitFs]at h
theorem list_fit {α:Type}{p:α->Prop}{e:α->List D}:∀(es:List (List D)),(∀el∈es,∃x,el=e x/\p x)->∃xs:List α,es=xs.map e/\∀x∈xs,p x
 | [],_=>⟨[],rfl,by simp⟩
 | el::es,h=>by
  obtain⟨x,h1,h2⟩:=h el List.mem_cons_self
  obtain⟨xs,h3,h4⟩:=list_fit es fun el hel=>h el (List.mem_cons_of_mem _ hel)
  exact⟨x::xs,by rw[List.map_cons,h1,h3],fun y hy=>by rcases List.mem_cons.1 hy with rfl|hy;exact h2;exact h4 y hy⟩
theorem dt_fit {P:Program}:∀(n:Nat) (t:TypeId) (T:Ty) (ds:List D),fitT P n t T=true->DT P n t ds->∃x:T.den,ds=encT T x/\okT T x
 | 0,t,T,ds,h,_=>by simp [fitT]at h
 | n+1,t,T,ds,h,hd=>by
  unfold fitT at h
  unfold DT at hd
  split at h
  ·rename_i hu
   simp only[hu]at hd
   cases T<;>simp at h
   obtain⟨b,rfl⟩:=hd
   exact⟨b,rfl,trivial⟩
  ·rename_i k hu
   simp only[hu]at hd
   obtain⟨z,rfl,hz⟩:=hd
   cases T with
   | Y =>
    simp only[decide_eq_true_eq]at h;subst h
    refine⟨u8 z, ?_,trivial⟩
    have hz':0<=z/\z<256:=by
     simp only[Lit.wf,Bool.and_eq_true,decide_eq_true_eq]at hz
     have h0:IntKind.u8.min=0:=rfl
     have h1:IntKind.u8.max=255:=rfl
     omega
    simp only[encT,u8]
    congr 1;congr 1;congr 1
    rw[UInt8.toNat_ofNat',Nat.mod_eq_of_lt (by omega)]
    omega
   | I k' =>
    simp only[decide_eq_true_eq]at h;subst h
    exact⟨z,rfl,hz⟩
   | _=>simp at h
  ·rename_i hu
   simp only[hu]at hd
   cases T<;>simp at h
   obtain⟨s,rfl,hs⟩:=hd
   refine⟨s.data.toList,by simp [encT], ?_⟩
   show s.data.toList.length<=maxLen
   rw[Array.length_toList];exact hs
  ·rename_i e hu
   simp only[hu]at hd
   cases T with
   | L T =>
    simp only[Bool.and_eq_true]at h
    obtain⟨es,rfl,hl,he⟩:=hd
    obtain⟨xs,rfl,hx⟩:=list_fit (e:=encT T) (p:=okT T) es fun el hel=>dt_fit n e T el h.2 (he el hel)
    exact⟨xs,by simp only[encT];rw[Nat.eq_of_beq_eq_true h.1],by simpa using hl,hx⟩
   | _=>simp at h
  ·rename_i fs hu
   simp only[hu]at hd
   obtain⟨dss,rfl,ha⟩:=hd
   exact fields_fit (fun t T ds=>dt_fit n t T ds) fs.toList T dss h ha
  ·simp at h
theorem lies_fit {H:Type}{enc:TypeId×Value->H}{P:Program}{W:World}{base n:Nat}{t:TypeId}{v:Value}{d:DataW H}{ps:List MemPlace}(ag:Bool) (T:Ty) (hg:good P n t=true) (hf:fitT P n t T=true) (ha:(match P.underlying t with|some (.struct _)=>ag|some (.slice _)=>!ag|some (.int _)=>!ag|some .bool=>!ag|some .string=>!ag|_=>false)=true)
  (hval:Value.okWide P W .any base t v) (h:DataW.Trod enc P W 0 (fun _=>true) true t v d ps):∃x:T.den,ArgLies W (ag,encT T x) v/\okT T x:=by
 obtain⟨fuel,hh⟩:=h
 obtain⟨ds,h1,h2⟩:=lies_trod n t fuel _ _ hg hh
 obtain⟨x,rfl,hx⟩:=dt_fit n t T ds hf h2
 refine⟨x, ?_,hx⟩
 have one:ag=false->v.cells=#[v]->ArgLies W (ag,encT T x) v:=by
  intro e hv
  subst e
  simp only[ArgLies,Bool.false_eq_true,if_false]
  rw[hv]at h1
  cases hd:encT T x with
  | nil=>rw[hd]at h1;exact h1.elim
  | cons d ds =>
   rw[hd]at h1
   cases ds with
   | nil=>exact⟨d,rfl,h1.1⟩
   | cons _ _=>exact h1.2.elim
 split at ha
 ·rename_i fs hu
  subst ha
  obtain⟨cs,rfl,_⟩:=WideShapes.okWide_struct hu hval
  simp only[ArgLies,if_true]
  exact⟨cs.toList,by simp,by simpa [Value.cells] using h1⟩
 ·rename_i e hu
  obtain⟨a,l,c,rfl⟩:=WideShapes.okWide_slice hu hval
  exact one (by simpa using ha) rfl
 ·rename_i k hu
  obtain⟨a,rfl⟩:=WideShapes.okWide_int hu hval
  exact one (by simpa using ha) rfl
 ·rename_i hu
  obtain⟨a,rfl⟩:=WideShapes.okWide_bool hu hval
  exact one (by simpa using ha) rfl
 ·rename_i hu
  obtain⟨a,rfl⟩:=WideShapes.okWide_string hu hval
  exact one (by simpa using ha) rfl
 ·simp at ha
end Go.Vs
namespace Go.Vs
variable [Glb]
noncomputable section
theorem wrap_i64 {n:Int}(h1:-9223372036854775808<=n) (h2:n<9223372036854775808):IntKind.i64.wrap n=n:=by
 have e1:IntKind.i64.bits=64:=rfl
 have e2:IntKind.i64.signed=true:=rfl
 simp only[IntKind.wrap,e1,e2,Bool.true_and,Nat.reduceSub,decide_eq_true_eq]
 have e3:((2:Int)^64)=18446744073709551616:=by decide
 have e4:((2:Int)^63)=9223372036854775808:=by decide
 rw[e3,e4]
 by_cases h:0<=n
 ·have:n%18446744073709551616=n:=Int.emod_eq_of_lt h (by omega)
  rw[this,if_neg (by omega)]
 ·have:n%18446744073709551616=n+18446744073709551616:=by omega
  rw[this,if_pos (by omega)];omega
theorem iAdd_ok {a b:Int}(h1:-9223372036854775808<=a+b) (h2:a+b<9223372036854775808):iAdd .i64 a b=a+b:=wrap_i64 h1 h2
theorem iSub_ok {a b:Int}(h1:-9223372036854775808<=a-b) (h2:a-b<9223372036854775808):iSub .i64 a b=a-b:=wrap_i64 h1 h2
theorem iMul_ok {a b:Int}(h1:-9223372036854775808<=a*b) (h2:a*b<9223372036854775808):iMul .i64 a b=a*b:=wrap_i64 h1 h2
theorem iAdd_n {i n:Nat}(h:i+n<9223372036854775808):iAdd .i64 (i:Int) (n:Int)=((i+n:Nat):Int):=by
 rw[iAdd_ok (by omega) (by omega)];omega
theorem iAdd_1 {i:Nat}(h:i<9223372036854775807):iAdd .i64 (i:Int) 1=((i+1:Nat):Int):=iAdd_n (n:=1) (by omega)
@[simp] theorem nOf_n (i:Nat):nOf (i:Int)=i:=by simp [nOf]
@[simp] theorem idx_n {α:Type} (xs:List α) (i:Nat):idx xs (i:Int)=xs[i]?:=by simp [idx]
@[simp] theorem idx_ofNat {α:Type} (xs:List α) (i:Nat):idx xs (Int.ofNat i)=xs[i]?:=idx_n xs i
theorem idx_at {α:Type}{xs:List α}{i:Nat}(h:i<xs.length):idx xs (i:Int)=some xs[i]:=by rw[idx_n,List.getElem?_eq_getElem h]
@[simp] theorem bnd_s {α β:Type} (x:α) (f:α->Option β):bnd (some x) f=f x:=rfl
@[simp] theorem chk_t {β:Type} (k:Option β):chk true k=k:=rfl
@[simp] theorem cnd_t {β:Type} (x y:Option β):cnd true x y=x:=rfl
@[simp] theorem cnd_f {β:Type} (x y:Option β):cnd false x y=y:=rfl
@[simp] theorem joinX_l {σ ρ:Type} (s:σ) (f:σ->Option ρ):joinX (some (.inl s)) f=f s:=rfl
@[simp] theorem joinX_r {σ ρ:Type} (r:ρ) (f:σ->Option ρ):joinX (some (.inr r)) f=some r:=rfl
@[simp] theorem outX_s {σ ρ:Type} (r:ρ):outX (σ:=σ) (some r)=some (.inr r):=rfl
@[simp] theorem sel2_t {α:Type} (x y:α):sel2 true x y=x:=rfl
@[simp] theorem sel2_f {α:Type} (x y:α):sel2 false x y=y:=rfl
@[simp] theorem iEq_r (a:Int):iEq a a=true:=by simp [iEq]
@[simp] theorem iNe_r (a:Int):iNe a a=false:=by simp [iNe]
@[simp] theorem sEq_r (a:List UInt8):sEq a a=true:=by simp [sEq]
@[simp] theorem bNe_r (a:Bool):bNe a a=false:=by simp [bNe]
@[simp] theorem bNot_t:bNot true=false:=rfl
@[simp] theorem bNot_f:bNot false=true:=rfl
@[simp] theorem nEq_r (a:Nat):nEq a a=true:=by simp [nEq]
theorem iLt_y {a b:Int}(h:a<b):iLt a b=true:=by simp [iLt,h]
theorem iLt_n {a b:Int}(h:b<=a):iLt a b=false:=by simp [iLt];omega
theorem iGt_y {a b:Int}(h:b<a):iGt a b=true:=by simp [iGt,h]
theorem iGt_n {a b:Int}(h:a<=b):iGt a b=false:=by simp [iGt];omega
theorem iLe_y {a b:Int}(h:a<=b):iLe a b=true:=by simp [iLe,h]
theorem iLe_n {a b:Int}(h:b<a):iLe a b=false:=by simp [iLe];omega
theorem iGe_y {a b:Int}(h:b<=a):iGe a b=true:=by simp [iGe,h]
theorem iGe_n {a b:Int}(h:a<b):iGe a b=false:=by simp [iGe];omega
theorem iEq_n {a b:Int}(h:a≠b):iEq a b=false:=by simp [iEq,h]
theorem iNe_y {a b:Int}(h:a≠b):iNe a b=true:=by simp [iNe,h]
theorem room_ok {n sz:Nat}(h:n*sz<=140737488355328):room n sz=true:=by simp [room,h]
theorem small_ok {a b:List UInt8}(h:a.length+b.length<9223372036854775808):small a b=true:=by simp [small,h]
theorem mkOk_ok {n m:Nat}(h:n*m<=140737488355328) (h2:n<=9223372036854775807):mkOk (n:Int) m=true:=by
 simp only[mkOk,decide_eq_true_eq]
 refine⟨by omega, ?_,by omega⟩
 have:(n:Int)*(m:Int)=((n*m:Nat):Int):=by simp
 omega
@[simp] theorem lLen_def {α:Type} (xs:List α):lLen xs=(xs.length:Int):=rfl
@[simp] theorem lSet_len {α:Type} (l:List α) (n:Nat) (x:α):(lSet l n x).length=l.length:=by simp [lSet]
@[simp] theorem lSet_lSet {α:Type} (l:List α) (n:Nat) (x y:α):lSet (lSet l n x) n y=lSet l n y:=by simp [lSet]
theorem loop_inv {σ ρ:Type}{step:σ->Option (σ ⊕ ρ)}(inv:Nat->σ->Prop) (n:Nat) (Q:ρ->Prop) (hs:∀i s,i<n->inv i s->(∃s',step s=some (.inl s')/\inv (i+1) s')\/∃r,step s=some (.inr r)/\Q r) (he:∀s,inv n s->∃r,step s=some (.inr r)/\Q r) (s0:σ) (h0:inv 0 s0):∃r,loopX step s0=some r/\Q r:=by
 have key:∀k i s,n-i=k->i<=n->inv i s->∃r,loopX step s=some r/\Q r:=by
  intro k
  induction k with
  | zero =>
   intro i s hk hi h
   have:i=n:=by omega
   subst this
   obtain⟨r,h1,h2⟩:=he s h
   exact⟨r,by rw[loopX_eq,h1],h2⟩
  | succ k ih =>
   intro i s hk hi h
   rcases hs i s (by omega) h with ⟨s',h1,h2⟩|⟨r,h1,h2⟩
   ·obtain⟨r,h3,h4⟩:=ih (i+1) s' (by omega) (by omega) h2
    exact⟨r,by rw[loopX_eq,h1];exact h3,h4⟩
   ·exact⟨r,by rw[loopX_eq,h1],h2⟩
 exact key n 0 s0 (by omega) (by omega) h0
theorem loop_exact {σ ρ:Type}{step:σ->Option (σ ⊕ ρ)}(st:Nat->σ) (n:Nat) (r:ρ) (hs:∀i,i<n->step (st i)=some (.inl (st (i+1)))) (he:step (st n)=some (.inr r)) (s0:σ) (h0:s0=st 0):loopX step s0=some r:=by
 obtain⟨r',h1,h2⟩:=loop_inv (step:=step) (fun i s=>s=st i) n (fun x=>x=r) (fun i s hi h=>.inl ⟨_,by rw[h];exact hs i hi,rfl⟩) (fun s h=>⟨r,by rw[h];exact he,rfl⟩) s0 h0
 rw[h1,h2]
def SzR (o:Option Int) (k:Int) (P:Prop):Prop:=∃z,o=some z/\z<=k/\(0<=z->P)
theorem SzR.done {k:Int}:SzR (some k) k True:=⟨k,rfl,Int.le_refl _,fun _=>trivial⟩
theorem SzR.mono {o:Option Int}{k k':Int}{P Q:Prop}(h:SzR o k P) (hk:k<=k') (hp:P->Q):SzR o k' Q:=by
 obtain⟨z,a,b,c⟩:=h
 exact⟨z,a,by omega,fun h=>hp (c h)⟩
theorem SzR.sub {α:Type}{l:List α}{k:Int}{rest:Option Int}{P:Prop}(h0:0<=k) (hk:k<=4611686018427387904) (hl:l.length<=9223372036854775807) (h:(l.length:Int)<=k->SzR rest (k-l.length) P):SzR (cnd (iLt (iSub .i64 k (lLen l)) 0) (some (-1)) rest) k ((l.length:Int)<=k/\P):=by
 have e:iSub .i64 k (lLen l)=k-l.length:=iSub_ok (by simp only[lLen_def];omega) (by simp only[lLen_def];omega)
 rw[e]
 by_cases hh:(l.length:Int)<=k
 ·rw[iLt_n (by omega)]
  obtain⟨z,a,b,c⟩:=h hh
  exact⟨z,a,by omega,fun h=>⟨hh,c h⟩⟩
 ·rw[iLt_y (by omega)]
  exact⟨-1,rfl,by omega,fun h=>by omega⟩
theorem SzR.seq {o:Option Int}{k:Int}{P Q:Prop}{f:Int->Option Int}(h0:0<=k) (h:SzR o k P) (hf:∀z,0<=z->z<=k->SzR (f z) z Q):SzR (bnd o fun z=>cnd (iLt z 0) (some (-1)) (f z)) k (P/\Q):=by
 obtain⟨z,rfl,b,c⟩:=h
 simp only[bnd_s]
 by_cases hz:0<=z
 ·rw[iLt_n hz]
  obtain⟨y,d,e,g⟩:=hf z hz b
  exact⟨y,d,by omega,fun h=>⟨c hz,g h⟩⟩
 ·rw[iLt_y (by omega)]
  exact⟨-1,rfl,by omega,fun h=>by omega⟩
theorem SzR.one {o:Option Int}{k:Int}{P:Prop}(h0:0<=k) (h:SzR o k P):SzR (bnd o fun z=>cnd (iLt z 0) (some (-1)) (some z)) k P:=by
 obtain⟨z,rfl,b,c⟩:=h
 simp only[bnd_s]
 by_cases hz:0<=z
 ·rw[iLt_n hz];exact⟨z,rfl,b,c⟩
 ·rw[iLt_y (by omega)];exact⟨-1,rfl,by omega,fun h=>by omega⟩
end
end Go.Vs
namespace Go.Vs
variable [Glb]
section
variable {w0:World} {own0:Nat->Nat->Prop} {pl0:Pls} {g:Lab} {pl:Pls} {roots:List (Nat×Root)} {nx nc fix:Nat} {w:World}
def lbl (g:Lab):Nat->Nat->Prop:=fun b o=>∃x,g b o=some x
theorem RootOk.into {st st':Nat->Nat->Prop}{r:Nat}{x:Root}(hs:∀b o,st b o->st' b o) (h:RootOk st w g pl nc r x):RootOk st' w g pl nc r x:=by
 cases x with
 | tr sz es=>exact h
 | im sz es=>exact fun p n hn=>⟨(h p n hn).1,fun j hj=>hs _ _ ((h p n hn).2 j hj)⟩
 | bx cs=>exact h
 | ib cs=>intro c x hx;obtain⟨v,a,b,d⟩:=h c x hx;exact⟨v,a,b,hs _ _ d⟩
theorem Hp.into (h:Hp w0 own0 pl0 g pl roots nx nc fix w):Hp w (lbl g) pl g pl roots nx nc fix w:=by
 refine⟨Fr.refl w (lbl g) fun b o v hv=>?_,fun b o x hx=>⟨(h.lab b o x hx).1,.inr ⟨x,hx⟩,(h.lab b o x hx).2.2⟩,fun _ _ _=>rfl,h.fixle,h.ncle,fun r x hx=>⟨(h.roots r x hx).1,(h.roots r x hx).2.into fun b o hst=>?_⟩⟩
 ·obtain⟨h1,h2,h3⟩:=h.fr.gl b o v hv
  refine⟨Nat.lt_of_lt_of_le h1 h.fr.size, ?_,h.fr.glb hv⟩
  rintro ⟨x,hx⟩
  rcases (h.lab b o x hx).2.1 with k|k
  ·omega
  ·exact h2 k
 ·refine⟨Nat.lt_of_lt_of_le hst.1 h.fr.size, ?_⟩
  rintro ⟨x,hx⟩
  rcases (h.lab b o x hx).2.1 with k|k
  ·have:=hst.1;omega
  ·exact hst.2 k
def NoIm (roots:List (Nat×Root)):Prop:=∀r x,get roots r=some x->(∃sz es,x=.tr sz es)\/∃cs,x=.bx cs
theorem Hp.back {g':Lab}{pl':Pls}{roots':List (Nat×Root)}{nx' nc':Nat}{w':World}(h:Hp w0 own0 pl0 g pl roots nx nc fix w) (k:Hp w (lbl g) pl g' pl' roots' nx' nc' fix w') (hno:NoIm roots'):Hp w0 own0 pl0 g' pl' roots' nx' nc' fix w':=by
 have own:∀b o,lbl g b o->w0.heap.size<=b\/own0 b o:=fun b o ⟨x,hx⟩=>(h.lab b o x hx).2.1
 refine⟨⟨k.fr.os.trans h.fr.os,k.fr.tape.trans h.fr.tape,k.fr.output.trans h.fr.output,Nat.le_trans h.fr.size k.fr.size, ?_, ?_,h.fr.gl⟩, ?_,fun r p hr=>by rw[k.fixed r p hr,h.fixed r p hr],k.fixle,k.ncle, ?_⟩
 ·intro b hb ho
  have hb':=Nat.lt_of_lt_of_le hb h.fr.size
  rw[k.fr.block b hb' fun o q=>?_,h.fr.block b hb ho]
  rcases own b o q with q|q
  ·omega
  ·exact ho o q
 ·intro b o hb ho
  have hb':=Nat.lt_of_lt_of_le hb h.fr.size
  have hno:¬lbl g b o:=fun q=>by
   rcases own b o q with q|q
   ·omega
   ·exact ho q
  obtain⟨e1,e2⟩:=k.fr.cell b o hb' hno
  obtain⟨e3,e4⟩:=h.fr.cell b o hb ho
  exact⟨e1.trans e3,e2.trans e4⟩
 ·intro b o x hx
  obtain⟨a,b',c⟩:=k.lab b o x hx
  refine⟨a, ?_,c⟩
  rcases b' with q|q
  ·exact .inl (Nat.le_trans h.fr.size q)
  ·exact own b o q
 ·intro r x hx
  obtain⟨a,b⟩:=k.roots r x hx
  refine⟨a, ?_⟩
  rcases hno r x hx with ⟨sz,es,rfl⟩|⟨cs,rfl⟩
  ·exact b
  ·exact b
end
end Go.Vs
namespace Go.Vs
variable [Glb]
end Go.Vs
namespace Go.Vs
variable [Glb]
section
variable {P:Program} {N:Nat} {Φ:List (Fx P)} {H:List (Nat×Hn)}
end
theorem decode_pos (s:ByteArray) (p:Nat) (h:p<s.size):1<=(Utf8.decode s p).2:=by
 by_cases ha:(s[p]'h).toNat<128
 ·rw[decode_ascii s p h ha]
  exact Nat.le_refl _
 ·exact (decode_high s p h (by omega)).2
def runesF:Nat->ByteArray->Nat->List Int
 | 0,_,_=>[]
 | n+1,s,p=>if p<s.size then iConv .i64 ((Utf8.decode s p).1:Int)::runesF n s (p+(Utf8.decode s p).2) else []
def Reach (s:ByteArray) (p:Nat) (ns:List Int):Prop:=(∀n,runesF (n+ns.length) s 0=ns++runesF n s p)/\ns.length<=p/\ns.length<=s.size
theorem Reach.step {s:ByteArray}{p:Nat}{ns:List Int}(h:Reach s p ns) (hp:p<s.size):Reach s (p+(Utf8.decode s p).2) (ns++[iConv .i64 ((Utf8.decode s p).1:Int)]):=by
 obtain⟨h1,h2,h3⟩:=h
 have hk:=decode_pos s p hp
 refine⟨fun n=>?_, ?_, ?_⟩
 ·rw[List.length_append,List.length_cons,List.length_nil,show n+(ns.length+(0+1))=(n+1)+ns.length by omega,h1,List.append_assoc]
  simp only[runesF,if_pos hp,List.cons_append,List.nil_append]
 ·rw[List.length_append,List.length_cons,List.length_nil];omega
 ·rw[List.length_append,List.length_cons,List.length_nil];omega
section
variable {P:Program} {N:Nat} {Φ:List (Fx P)} {H:List (Nat×Hn)}
end
end Go.Vs
namespace Go.Vs
variable [Glb]
theorem Win.uniq {L:Pl}{sz n:Nat}{u v:Value}(hu:Win L sz 0 n u) (hv:Win L sz 0 n v):u=v:=by
 obtain⟨_,_,_,A,rfl,hA⟩:=hu
 obtain⟨_,_,_,B,rfl,hB⟩:=hv
 rw[hA (.inr rfl),hB (.inr rfl)]
theorem makes_of_vw {P:Program}{f:FuncId}{fn:Func}{c:Code}{is:List I}{sz:Nat}{es:List (List D)}{tl:List Value}(hf:P.funcs[f]? = some fn) (hb:fn.body=some c) (hi:trRes P fn.results.toList=some is) (hn:1<=fn.ntmps)
  (h:Vw P fn.ntmps c ⟨[(0,.a (.c (.rf 0 [] sz 0 es.length)))],[(0,.im sz es)],1,1⟩ fun e S'=>match e with
   | .ret|.normal=>resK S' is fun xs=>∃r,xs=[.c (.pb r 0)]/\r+1=S'.next/\get S'.roots r=some (.bx (.rf 0 [] sz 0 es.length::tl.map .lf))
   | _=>False):Makes P f (.sl sz es) tl:=by
 intro W v hgl hv
 obtain⟨d,hd,hl⟩:=hv
 simp only[List.cons.injEq,and_true]at hd
 subst hd
 obtain⟨pl,c1,c2,_⟩:=lies_cells (W:=W) (N:=1) (g:=fun _ _=>none) [.sl sz es] [v] (0,0) ⟨hl,trivial⟩ (by simp [inCs,inC])
 have hcv:CR pl 1 (.rf 0 [] sz 0 es.length) v:=c1.1
 have hp:Hp W (fun _ _=>False) pl (fun _ _=>none) pl [(0,.im sz es)] 1 1 1 W:=by
  refine⟨Fr.refl _ _ (fun b o v h=>⟨(hgl b o v h).1,fun k=>k,(hgl b o v h).2⟩),(fun b o x hx=>by cases hx),(fun _ _ _=>rfl),Nat.le_refl _,Nat.le_refl _, ?_⟩
  intro r x hx
  have:=c2 _ (mem_of_get (l:=[(0,Root.im sz es)]) hx)
  exact⟨this.2.1,this.2.2⟩
 refine calls_of_wp hf hb ?_
 refine wp_mono (h W _ pl _ pl _ W ⟨hp, ?_,rfl, ?_⟩) ?_
 ·simp;omega
 ·intro t x hx
  simp only[get]at hx
  split at hx
  ·rename_i e
   simp only[Option.some.injEq]at hx
   subst hx e
   have:(#[v]++Array.replicate (fn.ntmps-#[v].size) undef).getD 0 undef=v:=by
    rw[Array.getD_eq_getD_getElem?,Array.getElem?_append_left (by simp)]
    rfl
   rw[this]
   exact hcv
  ·simp at hx
 ·rintro e a' w' ⟨S',g',pl',q,hfx,hR⟩
  have fin:resK S' is (fun xs=>∃r,xs=[.c (.pb r 0)]/\r+1=S'.next/\get S'.roots r=some (.bx (.rf 0 [] sz 0 es.length::tl.map .lf)))->a'.defers=[]/\∃v',(results fn a'.tmps).run P w'=.ok v' w'/\∃g2 pl2 r0,Hp W (fun _ _=>False) pl2 g2 pl2 [(r0,.bx (.un::tl.map .lf))] (r0+1) r0 0 w'/\Ending.returned v'=.returned (.pointer (some ⟨(pl2 r0 []).b,(pl2 r0 []).off,none⟩))/\w'.cell? ⟨(pl2 r0 []).b,(pl2 r0 []).off,none⟩=some v:=by
   intro hk
   obtain⟨us,xs,h1,h2,r,rfl,hr1,hr2⟩:=res_run hR _ _ _ hi hk
   match us,h2 with
   | [u],h2 =>
   obtain⟨_,hu⟩:CR pl' S'.next (.pb r 0) u:=h2.1
   obtain⟨_,hb'⟩:=hR.hp.roots r _ hr2
   obtain⟨v',k1,k2,k3,k4⟩:=hb' 0 _ rfl
   have hvv:v'=v:=by
    obtain⟨_,w1⟩:=k2
    have hfix:pl' 0 []=pl 0 []:=hR.hp.fixed 0 [] (by rw[hfx];exact Nat.lt_succ_self _)
    rw[hfix]at w1
    exact w1.uniq hcv.2
   refine⟨hR.defers,u, ?_,g',pl',r,⟨hR.hp.fr, ?_,(fun r p h=>absurd h (Nat.not_lt_zero _)),Nat.zero_le _,Nat.le_succ _, ?_⟩, ?_, ?_⟩
   ·rw[results_eq]
    rw[Array.mapM_eq_mapM_toList]
    simp [h1]
   ·intro b o x hx
    have:=hR.hp.lab b o x hx
    rw[<-hr1]at this
    exact this
   ·intro r' x hx
    simp only[get]at hx
    split at hx
    ·rename_i e
     simp only[Option.some.injEq]at hx
     subst hx e
     refine⟨Nat.lt_succ_self _, ?_⟩
     intro j y hy
     cases j with
     | zero =>
      simp only[List.getElem?_cons_zero,Option.some.injEq]at hy;subst hy
      exact⟨v',k1,CR.one k2,k3,k4⟩
     | succ j =>
      simp only[List.getElem?_cons_succ]at hy
      obtain⟨v2,m1,m2,m3,m4⟩:=hb' (j+1) y (by simpa using hy)
      refine⟨v2,m1, ?_,m3,m4⟩
      simp only[List.getElem?_map,Option.map_eq_some_iff]at hy
      obtain⟨z,_,rfl⟩:=hy
      exact m2
    ·simp at hx
   ·rw[hu];simp
   ·rw[<-hvv];simpa using k1
  cases e with
  | normal=>exact fin q
  | ret=>exact fin q
  | exit id=>exact q.elim
  | goto l=>exact q.elim
  | panic ch=>exact q.elim
  | outgrown=>exact q.elim
end Go.Vs
namespace Go.Vs
variable [Glb]
def curA:List GArg:=[⟨false,false,.L .Y,[.rx],none⟩]
def boxH (R:XRs) (r:Nat):Option Int:=match lk R r with
 | some (_,.bx [(_,c),(_,a),(_,b)])=>match c,a,b with
  | .rw 0,.i .i64 (Int.ofNat 0),.i .i64 z=>match lk R 0 with
   | some (0,.im _ _)=>some z
   | _=>none
  | _,_,_=>none
 | _=>none
def leaveC (X:XSt) (is:List I):Option Int :=
 exitX X is fun xs=>match xs with
  | [.c (.pb r 0)]=>match Nat.beq (r+1) X.next with
   | true=>boxH X.roots r
   | false=>none
  | _=>none
noncomputable def fnC {P:Program}(Φ:List (Fx P)) (H:List (Nat×Hn)) (s:Stm) (an:An) (is:List I) (x:List UInt8):Option Int :=
 runX Φ H s an (inGX curA x) fun e X'=>match e with
  | .ret=>leaveC X' is
  | .normal=>leaveC X' is
  | _=>none
section
variable {P:Program} {f:FuncId} {fn:Func} {Φ:List (Fx P)} {H:List (Nat×Hn)} {an:An}
theorem boxH_some {R:XRs}{r:Nat}{z:Int}(h:boxH R r=some z):∃s s1 s2 s3 t xs,lk R r=some (s,.bx [(s1,.rw 0),(s2,.i .i64 0),(s3,.i .i64 z)])/\lk R 0=some (0,.im t xs):=by
 unfold boxH at h
 split at h
 ·rename_i s s1 c s2 a s3 b hl
  split at h
  ·split at h
   ·rename_i t xs h0
    simp only[Option.some.injEq]at h
    subst h
    exact⟨_,_,_,_,_,_,hl,h0⟩
   ·cases h
  ·cases h
 ·cases h
theorem leaveC_ok {x:List UInt8}{X:XSt}{S:St}{is:List I}{z:Int}(hX:XOk X) (hE:Ext (inGX curA x) X) (hS:SimX X S) (h:leaveC X is=some z) :
  resK S is fun xs=>∃r,xs=[.c (.pb r 0)]/\r+1=S.next/\get S.roots r=some (.bx (.rf 0 [] 1 0 (x.map (encT .Y)).length::[Value.int .i64 0,Value.int .i64 z].map .lf)):=by
 unfold leaveC at h
 obtain⟨xs,ys,h,h1,h2,h3⟩:=exitX_ok hX hS is _ h
 refine h3 _ ?_
 split at h
 case h_2=>cases h
 rename_i r
 split at h
 case h_2=>cases h
 rename_i hb
 obtain⟨s,s1,s2,s3,t,xs,hl,h0⟩:=boxH_some h
 have h00:=hE.roots 0 0 _ h0 (by show 0<1;omega)
 have h01:lk (inGX curA x).roots 0=some (0,.im .Y x):=rfl
 rw[h01]at h00
 simp only[Option.some.injEq,Prod.mk.injEq,true_and]at h00
 match ys,h1 with
 | [y],h1 =>
 have hy:y=.c (.pb r 0):=by
  have hpb:cC X.roots (.pb r 0)=.pb r 0:=by simp only[cC,hl]
  have:=h1.1
  cases y with
  | c y =>
   have this:WkC y (cC X.roots (.pb r 0)):=this
   rw[hpb]at this
   rcases this with k|k
   ·rw[<-k]
   ·cases k
  | ag _=>exact this.elim
 subst hy
 refine⟨r,rfl, ?_, ?_⟩
 ·rw[hS.next];exact Nat.eq_of_beq_eq_true hb
 ·obtain⟨y',e1,e2⟩:=hS.roots r s _ hl _ rfl
  rw[e1]
  cases y' with
  | bx cs =>
   have hc0:cC X.roots (.rw 0)=.rf 0 [] 1 0 x.length:=by simp only[cC,h0,<-h00];rfl
   match cs,e2 with
   | [c1,c2,c3],e2 =>
    obtain⟨k1,k2,k3,_⟩:=e2
    have k1:WkC c1 (cC X.roots (.rw 0)):=k1
    rw[hc0]at k1
    have e1:c1=.rf 0 [] 1 0 x.length:=by rcases k1 with k|k;exact k.symm;cases k
    have e2:c2=.lf (.int .i64 0):=by rcases k2 with k|k;exact k.symm;cases k
    have e3:c3=.lf (.int .i64 z):=by rcases k3 with k|k;exact k.symm;cases k
    rw[e1,e2,e3,List.length_map]
    rfl
  | tr _ _=>exact e2.elim
  | im _ _=>exact e2.elim
  | ib _=>exact e2.elim
theorem makes_cur (hm:P.follows .mixedOrders=true){F:List UInt8->Option Int}(hf:P.funcs[f]? = some fn) (hk:okF P fn 1 (okG curA)=true) (h:∀x,fnC Φ H (sOf P fn) an (iOf P fn) x=F x) (x:List UInt8) (z:Int) (hz:F x=some z):Makes P f (.sl 1 (x.map (encT .Y))) [.int .i64 0,.int .i64 z]:=by
 obtain⟨a,b,c,d⟩:=okF_of hm hk
 obtain⟨co,hb,hs⟩:=body_of a
 obtain⟨h1,h2⟩:=inGX_ok curA x d
 have hx:=(h x).trans hz
 refine makes_of_vw (sz:=1) (es:=x.map (encT .Y)) (tl:=[.int .i64 0,.int .i64 z]) hf hb b (Nat.le_of_ble_eq_true c) ?_
 refine runX_ok hm (sOf P fn) an h1 h2 hx ?_ co hs
 intro e X' S' g1 g2 g3 g4
 cases e with
 | ret=>exact leaveC_ok g1 g2 g3 g4
 | normal=>exact leaveC_ok g1 g2 g3 g4
 | _=>simp at g4
end
end Go.Vs
namespace Go.Vs
variable [Glb]
theorem all2_av {pl:Pls}{nx:Nat}:∀{caps:List A}{vs:List Value},All2 (VR pl nx) (caps.map V.a) vs->All2 (AR pl nx) caps vs
 | [],[],_=>trivial
 | _::_,_::_,h=>⟨h.1,all2_av h.2⟩
 | [],_::_,h=>h.elim
 | _::_,[],h=>h.elim
theorem inV_len:∀(as:List Arg) (cs:List C) (b:Nat),(inV as cs b).length=as.length
 | [],_,_=>rfl
 | .val ag l::as,cs,b=>by cases ag<;>simp [inV,inV_len as]
 | .ptr l::as,cs,b=>by simp [inV,inV_len as]
theorem runsC_of_vw {P:Program}{f g:FuncId}{n:Nat}{fn:Func}{c:Code}{as:List Arg}{out:Out}{is:List I}{caps:List A}(hf:P.funcs[f]? = some fn) (hb:fn.body=some c) (hi:trRes P fn.results.toList=some is) (hn:n+1<=fn.ntmps) (hle:n<=as.length) (hcap:(inAs as).1.drop n=caps.map V.a)
  (h:Vw P fn.ntmps c ⟨env0 0 ((inAs as).1.take n)++[(n,.fn g caps)],(inAs as).2.1,(inAs as).2.2,fixN as⟩ fun e S'=>match e with
   | .ret|.normal=>resK S' is fun xs=>Leaves as out S'.roots (resV xs)
   | _=>False):RunsC (fun ws w R=>Calls P f (wrapF n g ws).toArray w R) as out:=by
 intro w own g0 pl vs hp hv
 have hvl:vs.length=as.length:=by rw[<-hv.length];exact inV_len _ _ _
 have hwl:(wrapF n g vs).length=n+1:=by simp [wrapF];omega
 refine calls_of_wp hf hb ?_
 refine wp_mono (h w own pl g0 pl _ w ⟨hp, ?_,rfl, ?_⟩) ?_
 ·simp [hwl];omega
 ·intro t x hx
  have key:∃v,(wrapF n g vs)[t]? = some v/\VR pl (inAs as).2.2 x v:=by
   rw[get_append]at hx
   split at hx
   ·rename_i y hy
    simp only[Option.some.injEq]at hx;subst hx
    obtain⟨_,h1⟩:=env0_get hy
    rw[Nat.sub_zero]at h1
    obtain⟨v,h2,h3⟩:=(All2.take n hv).get t y h1
    refine⟨v, ?_,h3⟩
    unfold wrapF
    rw[List.getElem?_append_left (List.getElem?_eq_some_iff.1 h2).1]
    exact h2
   ·simp only[get]at hx
    split at hx
    ·rename_i e
     simp only[Option.some.injEq]at hx;subst hx e
     refine⟨_, ?_,(vs.drop n),rfl,all2_av (by rw[<-hcap];exact All2.drop n hv)⟩
     unfold wrapF
     rw[List.getElem?_append_right (by simp;omega)]
     simp only[List.length_take]
     rw[show n-min n vs.length=0 by omega]
     rfl
    ·cases hx
  obtain⟨v,h2,h3⟩:=key
  have ht:t<(wrapF n g vs).length:=(List.getElem?_eq_some_iff.1 h2).1
  have:((wrapF n g vs).toArray++Array.replicate (fn.ntmps-(wrapF n g vs).toArray.size) undef).getD t undef=v:=by
   rw[Array.getD_eq_getD_getElem?,Array.getElem?_append_left (by simpa using ht)]
   simp [h2]
  rw[this]
  exact h3
 ·rintro e a' w' ⟨S',g',pl',q,hfx,hR⟩
  have fin:resK S' is (fun xs=>Leaves as out S'.roots (resV xs))->a'.defers=[]/\∃v,(results fn a'.tmps).run P w'=.ok v w'/\∃rv g' pl' roots nx res,Ending.returned v=.returned rv/\Hp w own pl g' pl' roots nx nx (fixN as) w'/\VR pl' nx res rv/\Leaves as out roots res:=by
   intro hk
   obtain⟨us,xs,h1,h2,h3⟩:=res_run hR _ _ _ hi hk
   have hp':=hR.hp
   rw[hfx]at hp'
   refine⟨hR.defers,if h:us.toArray.size=1 then us.toArray[0] else .tuple us.toArray, ?_,_,g',pl',S'.roots,S'.next,resV xs,rfl,hp', ?_,h3⟩
   ·rw[results_eq]
    rw[Array.mapM_eq_mapM_toList]
    simp [h1]
   ·match xs,us,h2 with
    | [],[],_=>exact⟨[],rfl,trivial⟩
    | [x],[u],h2=>exact h2.1
    | x::y::l,u::u'::us,h2=>exact⟨u::u'::us,by simp,h2⟩
    | [_],_::_::_,h2=>exact h2.2.elim
    | _::_::_,[_],h2=>exact h2.2.elim
  cases e with
  | normal=>exact fin q
  | ret=>exact fin q
  | exit id=>exact q.elim
  | goto l=>exact q.elim
  | panic ch=>exact q.elim
  | outgrown=>exact q.elim
end Go.Vs
namespace Go.Vs
variable [Glb]
def hEnv (g:FuncId):Nat->Nat->List XA->List (Nat×Nat×XV)
 | 0,i,l=>[(i,0,.fn g l)]
 | n+1,i,a::l=>(i,0,.a a)::hEnv g n (i+1) l
 | _+1,_,[]=>[]
def inHX (n:Nat) (g:FuncId) (as:List GArg) (x:Tp (argTys as)):XSt :=
 ⟨hEnv g n 0 (inAX as (inL (cellG as x) 0 (fixL (cellG as x)+nPtr as)).1 (fixL (cellG as x))),(inL (cellG as x) 0 (fixL (cellG as x)+nPtr as)).2.1++inBX as (inL (cellG as x) 0 (fixL (cellG as x)+nPtr as)).1 (fixL (cellG as x)),(inL (cellG as x) 0 (fixL (cellG as x)+nPtr as)).2.2,1,fixL (cellG as x)+nPtr as⟩
noncomputable def fnH {P:Program}(Φ:List (Fx P)) (H:List (Nat×Hn)) (s:Stm) (an:An) (is:List I) (n:Nat) (g:FuncId) (as:List GArg) (rs:List (Bool×Ty)) (x:Tp (argTys as)):Option (Tp (outTys as rs)) :=
 runX Φ H s an (inHX n g as x) fun e X'=>match e with
  | .ret=>leaveG as rs x X' is
  | .normal=>leaveG as rs x X' is
  | _=>none
theorem envA_get {s:Nat}:∀(l:List XA) (k i:Nat) (a:XA),l[i]? = some a->lk (envA s k l) (k+i)=some (s,.a a)
 | [],k,i,a,h=>by simp at h
 | b::l,k,0,a,h=>by
  simp only[List.getElem?_cons_zero,Option.some.injEq]at h;subst h
  simp only[envA];rw[lk_cons,if_pos (by simp only;omega)]
 | b::l,k,i+1,a,h=>by
  have:=envA_get (s:=s) l (k+1) i a (by simpa using h)
  simp only[envA]
  rw[lk_cons,if_neg (by simp only;omega)]
  rwa [show k+(i+1)=k+1+i by omega]
theorem hEnv_lk {g:FuncId}:∀(n i:Nat) (l:List XA){t st:Nat}{v:XV},lk (hEnv g n i l) t=some (st,v)->st=0/\((t=i+n/\n<=l.length/\v=.fn g (l.drop n))\/(i<=t/\t<i+n/\∃a,v=.a a/\l[t-i]? = some a))
 | 0,i,l,t,st,v,h=>by
  simp only[hEnv]at h
  rw[lk_cons]at h
  split at h
  ·rename_i e
   simp only[Option.some.injEq,Prod.mk.injEq]at h
   exact⟨h.1.symm,.inl ⟨by simp only at e;omega,Nat.zero_le _,by rw[<-h.2];rfl⟩⟩
  ·simp [lk]at h
 | n+1,i,[],t,st,v,h=>by simp [hEnv,lk]at h
 | n+1,i,a::l,t,st,v,h=>by
  simp only[hEnv]at h
  rw[lk_cons]at h
  split at h
  ·rename_i e
   simp only at e
   subst e
   simp only[Option.some.injEq,Prod.mk.injEq]at h
   exact⟨h.1.symm,.inr ⟨Nat.le_refl _,by omega,a,h.2.symm,by simp⟩⟩
  ·rename_i e
   simp only at e
   obtain⟨h0,h1⟩:=hEnv_lk n (i+1) l h
   refine⟨h0, ?_⟩
   rcases h1 with ⟨h1,h2,h3⟩|⟨h1,h2,b,h3,h4⟩
   ·exact .inl ⟨by omega,by simp;omega,by simpa using h3⟩
   ·refine .inr ⟨by omega,by omega,b,h3, ?_⟩
    rw[show t-i=(t-(i+1))+1 by omega,List.getElem?_cons_succ];exact h4
theorem inAX_len:∀(as:List GArg) (cs:List XC) (b:Nat),(inAX as cs b).length=as.length
 | [],_,_=>rfl
 | a::as,cs,b=>by
  simp only[inAX]
  cases a.ptr<;>simp only[List.length_cons,inAX_len as]
theorem caps_of {R:XRs}:∀(vs:List V) (L:List XA),vs.length=L.length->(∀(i:Nat) (a:XA),L[i]? = some a->∃z,vs[i]? = some (V.a z)/\WkA z (cA R a))->∃caps,vs=caps.map V.a/\All2 WkA caps (L.map (cA R))
 | [],[],_,_=>⟨[],rfl,trivial⟩
 | [],_::_,h,_=>by simp at h
 | _::_,[],h,_=>by simp at h
 | v::vs,a::L,h,hp=>by
  obtain⟨caps,h1,h2⟩:=caps_of vs L (by simpa using h) fun i b hb=>by simpa using hp (i+1) b (by simpa using hb)
  obtain⟨z,h3,h4⟩:=hp 0 a rfl
  simp only[List.getElem?_cons_zero,Option.some.injEq]at h3
  exact⟨z::caps,by rw[h3,h1];rfl,h4,h2⟩
theorem argsH_len:∀(as:List GArg) (x:Tp (argTys as)),(argsG as x).length=as.length
 | [],_=>rfl
 | a::as,x=>by simp only[argsG,List.length_cons,argsH_len as]
theorem inHX_ok (n:Nat) (g:FuncId) (as:List GArg) (x:Tp (argTys as)) (ho:okG as=true) (hn:n<=as.length):∃caps,(inAs (argsG as x)).1.drop n=caps.map V.a/\XOk (inHX n g as x)/\SimX (inHX n g as x) ⟨env0 0 ((inAs (argsG as x)).1.take n)++[(n,.fn g caps)],(inAs (argsG as x)).2.1,(inAs (argsG as x)).2.2,fixN (argsG as x)⟩:=by
 obtain⟨h1,h2⟩:=inGX_ok as x ho
 generalize hL:inAX as (inL (cellG as x) 0 (fixL (cellG as x)+nPtr as)).1 (fixL (cellG as x))=L
 have hLl:L.length=as.length:=by rw[<-hL];exact inAX_len _ _ _
 have hvl:(inAs (argsG as x)).1.length=as.length:=by rw[<-argsH_len as x];exact inV_len _ _ _
 have henv:(inGX as x).env=envA 0 0 L:=by rw[<-hL];rfl
 have hpt:∀(i:Nat) (a:XA),L[i]? = some a->(∃z,(inAs (argsG as x)).1[i]? = some (V.a z)/\WkA z (cA (inGX as x).roots a))/\okA (inGX as x).roots (inGX as x).next (inGX as x).stamp a:=by
  intro i a hi
  have hl:lk (inGX as x).env i=some (0,.a a):=by
   rw[henv]
   have:=envA_get (s:=0) L 0 i a hi
   rwa [Nat.zero_add]at this
  refine⟨?_,(h1.env i 0 _ hl).2⟩
  rcases h2.env i 0 _ hl with h|⟨y,hy,hw⟩
  ·cases h
  ·obtain⟨_,h3⟩:=env0_get hy
   rw[Nat.sub_zero]at h3
   cases y with
   | a z=>exact⟨z,h3,hw⟩
   | _=>exact hw.elim
 obtain⟨caps,hc1,hc2⟩:=caps_of (R:=(inGX as x).roots) ((inAs (argsG as x)).1.drop n) (L.drop n) (by simp [hLl,hvl]) fun i a hi=>by
  rw[List.getElem?_drop]at hi ⊢
  exact (hpt _ a hi).1
 have hE:(inHX n g as x).env=hEnv g n 0 L:=by rw[<-hL];rfl
 refine⟨caps,hc1,⟨h1.ids, ?_,h1.box,h1.fixle⟩,⟨h2.next,h2.fix, ?_,h2.roots⟩⟩
 ·intro t st v hl
  rw[hE]at hl
  obtain⟨rfl,h|⟨_,_,a,rfl,h4⟩⟩:=hEnv_lk n 0 L hl
  ·obtain⟨_,_,rfl⟩:=h
   refine⟨Nat.one_pos,fun a ha=>?_⟩
   obtain⟨i,hi⟩:=List.getElem?_of_mem (List.mem_of_mem_drop ha)
   exact (hpt i a hi).2
  ·exact⟨Nat.one_pos,(hpt _ a h4).2⟩
 ·intro t st v hl
  rw[hE]at hl
  right
  obtain⟨rfl,h|⟨_,h5,a,rfl,h4⟩⟩:=hEnv_lk n 0 L hl
  ·obtain⟨rfl,_,rfl⟩:=h
   refine⟨.fn g caps, ?_,rfl,hc2⟩
   rw[get_append]
   cases hq:get (env0 0 ((inAs (argsG as x)).1.take n)) (0+n) with
   | some y =>
    exfalso
    obtain⟨_,h3⟩:=env0_get hq
    have:=(List.getElem?_eq_some_iff.1 h3).1
    simp at this
    omega
   | none=>simp only[get];rw[if_pos (by omega)]
  ·obtain⟨⟨z,h6,h7⟩,_⟩:=hpt _ a h4
   refine⟨.a z, ?_,h7⟩
   rw[get_append,env0_of (Nat.zero_le _) (by rw[List.getElem?_take,if_pos (by omega)];exact h6)]
theorem runs_hof {P:Program}{f g:FuncId}{n:Nat}{fn:Func}{Φ:List (Fx P)}{H:List (Nat×Hn)}{an:An}(hm:P.follows .mixedOrders=true){as:List GArg}{rs:List (Bool×Ty)}{F:Tp (argTys as)->Option (Tp (outTys as rs))}(hf:P.funcs[f]? = some fn) (hk:okF P fn (n+1) (okG as&&Nat.ble n as.length)=true) (h:∀x,fnH Φ H (sOf P fn) an (iOf P fn) n g as rs x=F x) (x:Tp (argTys as)) (y:Tp (outTys as rs)) (hy:F x=some y) :
  RunsC (fun ws w R=>Calls P f (wrapF n g ws).toArray w R) (argsG as x) (outG as rs (spread _ y)):=by
 obtain⟨a,b,c,d⟩:=okF_of hm hk
 simp only[Bool.and_eq_true]at d
 obtain⟨co,hb,hs⟩:=body_of a
 obtain⟨caps,k1,k2,k3⟩:=inHX_ok n g as x d.1 (Nat.le_of_ble_eq_true d.2)
 refine runsC_of_vw hf hb b (Nat.le_of_ble_eq_true c) (by rw[argsH_len];exact Nat.le_of_ble_eq_true d.2) k1 ?_
 refine runX_ok hm (sOf P fn) an k2 k3 ((h x).trans hy) ?_ co hs
 intro e X' S' g1 g2 g3 g4
 cases e with
 | ret=>exact leaveG_ok (E:=(inHX n g as x).env) d.1 g1 g2 g3 g4
 | normal=>exact leaveG_ok (E:=(inHX n g as x).env) d.1 g1 g2 g3 g4
 | _=>simp at g4
end Go.Vs
namespace Go.Vs
def ReadsAs (P:Program) (W:World) (n:String) (d:DataW Unit):Prop :=
 ∃g t cs fuel p,P.globalNamed n=some g/\(P.globals[g]?).map (·.type)=some t/\W.var? P n=some cs/\DataW.trod (fun _=>()) P W 0 (fun _=>true) false fuel t cs.toList=some (d,p)
theorem reads_of {P:Program}{W:World}{n:String}{d:DataW Unit}:∀{l:List (String×DataW Unit)}{ps:List MemPlace},DataW.LaidVars P W l ps->(n,d)∈l->ReadsAs P W n d
 | [],_,_,hm=>by cases hm
 | (m,e)::l,ps,h,hm=>by
  obtain⟨g,t,cs,fuel,p,q,h1,h2,h3,h4,h5,_⟩:=h
  cases hm with
  | head=>exact⟨g,t,cs,fuel,p,h1,h2,h3,h4⟩
  | tail _ hm=>exact reads_of h5 hm
def byteL (b:UInt8):DataW Unit:=.lit (.int .u8 b.toNat)
def tabD (bs:List UInt8):DataW Unit:=.agg (bs.map byteL)
def pairsD:List UInt8->List (DataW Unit)
 | a::b::l=>.agg [byteL a,byteL b]::pairsD l
 | _=>[]
theorem pairsD_get:∀(l:List UInt8) (i:Nat) (a b:UInt8),l[2*i]? = some a->l[2*i+1]? = some b->(pairsD l)[i]? = some (.agg [byteL a,byteL b])
 | [],i,a,b,h,_=>by simp at h
 | [x],i,a,b,h,k=>by cases i<;>simp at k
 | x::y::l,0,a,b,h,k=>by
  simp only[Nat.mul_zero,List.getElem?_cons_zero,Option.some.injEq]at h
  simp only[Nat.mul_zero,Nat.zero_add,List.getElem?_cons_succ,List.getElem?_cons_zero,Option.some.injEq]at k
  subst h k;rfl
 | x::y::l,i+1,a,b,h,k=>by
  rw[show 2*(i+1)=2*i+1+1 by omega,List.getElem?_cons_succ,List.getElem?_cons_succ]at h
  rw[show 2*(i+1)+1=2*i+1+1+1 by omega,List.getElem?_cons_succ,List.getElem?_cons_succ]at k
  exact pairsD_get l i a b h k
theorem cell_lt {W:World}{g o:Nat}{v:Value}(h:W.cell? ⟨g,o,none⟩=some v):g<W.heap.size:=by
 rcases Nat.lt_or_ge g W.heap.size with k|k
 ·exact k
 ·simp only[World.cell?,Array.getElem?_eq_none k]at h;cases h
theorem one_u8 {P:Program}{W:World}{fuel:Nat}{e:TypeId}{cs:List Value}{i:Nat}{b:UInt8}{x:DataW Unit×List MemPlace}(he:P.underlying e=some (.int .u8)) (h:DataW.trod (fun _=>()) P W 0 (fun _=>true) false fuel e ((cs.drop i).take 1)=some x) (hx:x.1=byteL b):cs[i]? = some (.int .u8 b.toNat):=by
 obtain⟨z,e1,e2,_⟩:=DataW.trod_int he h
 rw[e2]at hx
 simp only[byteL,DataW.lit.injEq,Lit.int.injEq,true_and]at hx
 subst hx
 have h0:((cs.drop i).take 1)[0]? = some (.int .u8 (b.toNat:Int)):=by rw[e1];rfl
 simpa using h0
theorem tab_cells {P:Program}{W:World}{n:String}{g t e N:Nat}{bs:List UInt8}(hg:P.globalNamed n=some g) (hty:(P.globals[g]?).map (·.type)=some t) (ht:P.underlying t=some (.array N e)) (he:P.underlying e=some (.int .u8)) (hc:P.cellsOf e=1) (hr:ReadsAs P W n (tabD bs)) :
  ∀(o:Nat) (y:UInt8),bs[o]? = some y->g<W.heap.size/\W.cell? ⟨g,o,none⟩=some (.int .u8 y.toNat):=by
 obtain⟨g',t',cs,fuel,p,hg',hty',hv,hd⟩:=hr
 rw[hg]at hg'
 cases hg'
 rw[hty]at hty'
 cases hty'
 obtain⟨xs,m,_,ex,_,hl,hel⟩:=DataW.trod_array ht hd
 have e3:xs.map (·.1)=bs.map byteL:=(DataW.agg.inj (Prod.mk.inj ex).1).symm
 intro o y hy
 have hlen:xs.length=bs.length:=by simpa using congrArg List.length e3
 have ho:o<bs.length:=(List.getElem?_eq_some_iff.1 hy).1
 have hE:=hel o (by omega)
 rw[hc,Nat.mul_one,List.getElem?_eq_getElem (by omega)]at hE
 have e4:(xs.map (·.1))[o]? = (bs.map byteL)[o]?:=by rw[e3]
 rw[List.getElem?_map,List.getElem?_map,List.getElem?_eq_getElem (by omega),hy]at e4
 simp only[Option.map_some,Option.some.injEq]at e4
 have h1:=one_u8 he hE e4
 have h2:W.cell? ⟨g,o,none⟩=some (.int .u8 y.toNat):=by rw[World.var?_cell hg hv o];simpa using h1
 exact⟨cell_lt h2,h2⟩
theorem pair_cells {P:Program}{W:World}{n:String}{g t s N:Nat}{f0 f1:Field}{bs:List UInt8}(hg:P.globalNamed n=some g) (hty:(P.globals[g]?).map (·.type)=some t) (ht:P.underlying t=some (.array N s)) (hs:P.underlying s=some (.struct #[f0,f1])) (h0:P.underlying f0.type=some (.int .u8)) (h1:P.underlying f1.type=some (.int .u8)) (c0:P.cellsOf f0.type=1) (c1:P.cellsOf f1.type=1) (o0:f0.offset=0) (o1:f1.offset=1) (hc:P.cellsOf s=2) (hN:bs.length=2*N) (hr:ReadsAs P W n (.agg (pairsD bs))) :
  ∀(o:Nat) (y:UInt8),bs[o]? = some y->g<W.heap.size/\W.cell? ⟨g,o,none⟩=some (.int .u8 y.toNat):=by
 obtain⟨g',t',cs,fuel,p,hg',hty',hv,hd⟩:=hr
 rw[hg]at hg'
 cases hg'
 rw[hty]at hty'
 cases hty'
 obtain⟨xs,m,_,ex,_,hl,hel⟩:=DataW.trod_array ht hd
 have e3:xs.map (·.1)=pairsD bs:=(DataW.agg.inj (Prod.mk.inj ex).1).symm
 intro o y hy
 have ho:o<bs.length:=(List.getElem?_eq_some_iff.1 hy).1
 -- the pair it stands in
 have key:∀i,i<N->∃a b:UInt8,bs[2*i]? = some a/\bs[2*i+1]? = some b/\cs.toList[2*i]? = some (.int .u8 a.toNat)/\cs.toList[2*i+1]? = some (.int .u8 b.toNat):=by
  intro i hi
  refine⟨bs[2*i]'(by omega),bs[2*i+1]'(by omega),List.getElem?_eq_getElem _,List.getElem?_eq_getElem _, ?_⟩
  have hE:=hel i hi
  rw[hc,List.getElem?_eq_getElem (by omega)]at hE
  have hp:=pairsD_get bs i _ _ (List.getElem?_eq_getElem (show 2*i<bs.length by omega)) (List.getElem?_eq_getElem (show 2*i+1<bs.length by omega))
  rw[<-e3,List.getElem?_map,List.getElem?_eq_getElem (by omega)]at hp
  simp only[Option.map_some,Option.some.injEq]at hp
  obtain⟨ys,k,_,ey,_,_,hf⟩:=DataW.trod_struct hs hE
  have hy1:ys.map (·.1)=[byteL (bs[2*i]'(by omega)),byteL (bs[2*i+1]'(by omega))]:=by
   rw[ey]at hp
   exact DataW.agg.inj hp
  match ys,hy1 with
  | [u,v],hy1 =>
   simp only[List.map_cons,List.map_nil,List.cons.injEq,and_true]at hy1
   have q0:=hf 0 f0 rfl
   have q1:=hf 1 f1 rfl
   rw[o0,c0]at q0
   rw[o1,c1]at q1
   have r0:=one_u8 h0 q0 hy1.1
   have r1:=one_u8 h1 q1 hy1.2
   rw[List.getElem?_take,if_pos (by omega),List.getElem?_drop]at r0 r1
   rw[show i*2+0=2*i by omega]at r0
   rw[show i*2+1=2*i+1 by omega]at r1
   exact⟨r0,r1⟩
 obtain⟨a,b,k1,k2,k3,k4⟩:=key (o / 2) (by omega)
 have h2:W.cell? ⟨g,o,none⟩=some (.int .u8 y.toNat):=by
  rw[World.var?_cell hg hv o,<-Array.getElem?_toList]
  rcases (show o=2*(o / 2)\/o=2*(o / 2)+1 by omega) with h|h
  ·rw[<-h]at k1 k3
   rw[hy]at k1
   cases k1
   exact k3
  ·rw[<-h]at k2 k4
   rw[hy]at k2
   cases k2
   exact k4
 exact⟨cell_lt h2,h2⟩
theorem glbAt_two {bs cs:List UInt8}{W:World}(h0:∀(o:Nat) (y:UInt8),bs[o]? = some y->0<W.heap.size/\W.cell? ⟨0,o,none⟩=some (.int .u8 y.toNat)) (h1:∀(o:Nat) (y:UInt8),cs[o]? = some y->1<W.heap.size/\W.cell? ⟨1,o,none⟩=some (.int .u8 y.toNat)) :
  ∀b o v,@glbAt ⟨[(0,bs),(1,cs)]⟩ b o=some v->b<W.heap.size/\W.cell? ⟨b,o,none⟩=some v:=by
 intro b o v h
 match b,h with
 | 0,h =>
  have e:@glbAt ⟨[(0,bs),(1,cs)]⟩ 0 o=(match bs[o]? with|some y=>some (.int .u8 y.toNat)|none=>none):=rfl
  rw[e]at h
  split at h
  ·rename_i y hy
   cases h
   exact h0 o y hy
  ·cases h
 | 1,h =>
  have e:@glbAt ⟨[(0,bs),(1,cs)]⟩ 1 o=(match cs[o]? with|some y=>some (.int .u8 y.toNat)|none=>none):=rfl
  rw[e]at h
  split at h
  ·rename_i y hy
   cases h
   exact h1 o y hy
  ·cases h
 | b+2,h =>
  have e:@glbAt ⟨[(0,bs),(1,cs)]⟩ (b+2) o=none:=rfl
  rw[e]at h;cases h
end Go.Vs
