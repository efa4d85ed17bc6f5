/-
  Loops whose first round is told by itself ('peeled'): what holds at the head of a later round need not hold at the first. Condition: none.
-/import Derived.Test.YtmpopjdcbabchaaGreatDoorVsW3
import Derived.Test.YtmpopjdcbabchaaGreatDoorVsW2
set_option linter.all false
namespace Go.Vs
variable [Glb]
@[reducible] def Tp:List Ty->Type
 | []=>Unit
 | [t]=>t.den
 | t::u::ts=>t.den×Tp (u::ts)
def Tp.hd:(t:Ty)->(ts:List Ty)->Tp (t::ts)->t.den
 | _,[],x=>x
 | _,_::_,x=>x.1
def Tp.tl:(t:Ty)->(ts:List Ty)->Tp (t::ts)->Tp ts
 | _,[],_=>()
 | _,_::_,x=>x.2
def Tp.mk:(t:Ty)->(ts:List Ty)->t.den->Tp ts->Tp (t::ts)
 | _,[],x,_=>x
 | _,_::_,x,y=>(x,y)
theorem Tp.hd_mk {t:Ty}:∀{ts:List Ty}(x:t.den) (y:Tp ts),Tp.hd t ts (Tp.mk t ts x y)=x
 | [],_,_=>rfl
 | _::_,_,_=>rfl
theorem Tp.tl_mk {t:Ty}:∀{ts:List Ty}(x:t.den) (y:Tp ts),Tp.tl t ts (Tp.mk t ts x y)=y
 | [],_,_=>rfl
 | _::_,_,_=>rfl
inductive XD where
 | lf (c:XC)
 | sl (t:Ty) (xs:List t.den)
def encD:XD->D
 | .lf (.i k z)=>.lf (.int k z)
 | .lf (.y b)=>.lf (.int .u8 b.toNat)
 | .lf (.b x)=>.lf (.bool x)
 | .lf (.s l)=>.lf (.string ⟨l.toArray⟩)
 | .lf _=>.hole
 | .sl t xs=>.sl t.n (xs.map (encT t))
def tcells:(t:Ty)->t.den->List XD
 | .I k,z=>[.lf (.i k z)]
 | .Y,b=>[.lf (.y b)]
 | .B,x=>[.lf (.b x)]
 | .S,l=>[.lf (.s l)]
 | .L t,xs=>[.sl t xs]
 | .H t,o=>[match o with|some xs=>.sl t xs|none=>.lf .un]
 | .P a b,x=>tcells a x.1++tcells b x.2
theorem tcells_enc:∀(t:Ty) (x:t.den),(tcells t x).map encD=encT t x
 | .I _,_=>rfl
 | .Y,_=>rfl
 | .B,_=>rfl
 | .S,_=>rfl
 | .L _,_=>rfl
 | .H _,none=>rfl
 | .H _,some _=>rfl
 | .P a b,x=>by simp only[tcells,List.map_append,tcells_enc a,tcells_enc b,encT]
def leafC:XC->XC
 | .i k z=>.i k z
 | .y b=>.y b
 | .b x=>.b x
 | .s l=>.s l
 | _=>.un
def newXs:List XD->XSt->List XC×XSt
 | [],X=>([],X)
 | .lf c::l,X=>(leafC c::(newXs l X).1,(newXs l X).2)
 | .sl t xs::l,X=>(.rw X.next::(newXs l (X.newR (.tr t xs))).1,(newXs l (X.newR (.tr t xs))).2)
def resCells:(rs:List (Bool×Ty))->Tp (rs.map (·.2))->List XD
 | [],_=>[]
 | (_,t)::rs,y=>tcells t (Tp.hd t _ y)++resCells rs (Tp.tl t _ y)
def resAs:List (Bool×Ty)->List XC->List XA
 | [],_=>[]
 | (ag,t)::rs,cs=>(match ag with
  | true=>.ag (cs.take t.n)
  | false=>match cs.take t.n with
   | [c]=>.c c
   | _=>.ag [])::resAs rs (cs.drop t.n)
def resX:List XA->XV
 | [x]=>.a x
 | xs=>.tp xs
def argsD:(as:List (Bool×Ty))->Tp (as.map (·.2))->List (Bool×List D)
 | [],_=>[]
 | (ag,t)::as,x=>(ag,encT t (Tp.hd t _ x))::argsD as (Tp.tl t _ x)
structure SEnt (P:Program) where
 f:FuncId
 args:List (Bool×Ty)
 res:List (Bool×Ty)
 F:Tp (args.map (·.2))->Option (Tp (res.map (·.2)))
 ok:∀x y,F x=some y->Runs P f ((argsD args x).map mkArg) ⟨argsD res y,[],[]⟩
def argS {β:Type}(R:XRs) (ag:Bool) (t:Ty) (v:XV) (f:t.den->Option β):Option β:=match ag,v with
 | false,.a (.c c)=>readT R t [c] fun x rest=>match rest with
  | []=>f x
  | _=>none
 | true,.a (.ag cs)=>readT R t cs fun x rest=>match rest with
  | []=>f x
  | _=>none
 | false,.sb r n=>match t,f with
  | .L t',f=>match lk R r with
   | some (_,.bx cs)=>match Nat.beq t'.n 1&&Nat.beq cs.length n with
    | true=>readN R t' n (cs.map (·.2)) f
    | false=>none
   | _=>none
  | _,_=>none
 | _,_=>none
def getS {β:Type}(R:XRs):(as:List (Bool×Ty))->List XV->(Tp (as.map (·.2))->Option β)->Option β
 | [],[],k=>k ()
 | (ag,t)::as,v::vs,k=>argS R ag t v fun x=>getS R as vs fun xs=>k (Tp.mk t _ x xs)
 | _,_,_=>none
def seeX {P:Program}{β:Type}(X:XSt) (e:SEnt P) (vs:List XV) (k:XV->XSt->Option β):Option β :=
 getS X.roots e.args vs fun x=>bnd (e.F x) fun y=>k (resX (resAs e.res (newXs (resCells e.res y) X).1)) (newXs (resCells e.res y) X).2
theorem newXs_ok : ∀ (l : List XD) {X : XSt} {E : List (Nat × V)} {R : List (Nat × Root)} {f : Nat}, XOk X → SimX X ⟨E, R, X.next, f⟩ →
    XOk (newXs l X).2 ∧ Ext X (newXs l X).2 ∧ (newXs l X).2.env = X.env ∧ (newXs l X).2.next = (newCs (l.map encD) X.next).2.2 ∧ SimX (newXs l X).2 ⟨E, (newCs (l.map encD) X.next).2.1 ++ R, (newXs l X).2.next, f⟩ ∧
    All2 WkC (newCs (l.map encD) X.next).1 ((newXs l X).1.map (cC (newXs l X).2.roots)) ∧ ∀ c ∈ (newXs l X).1, okC (newXs l X).2.roots (newXs l X).2.next (newXs l X).2.stamp c
  | [], X, E, R, f, hX, hS => ⟨hX, Ext.refl X, rfl, rfl, hS, trivial, by simp [newXs]⟩
  | .lf c :: l, X, E, R, f, hX, hS => by
    obtain ⟨a, b, e, n, s, w, o⟩ := newXs_ok l hX hS
    cases c <;> refine ⟨a, b, e, n, s, ?_, ?_⟩ <;> first
      | exact ⟨WkC.refl _, w⟩
      | exact ⟨.inr rfl, w⟩
      | (intro c hc
         simp only [newXs, List.mem_cons] at hc
         rcases hc with rfl | hc
         · trivial
         · exact o c hc)
  | .sl t xs :: l, X, E, R, f, hX, hS => by
    obtain ⟨a1, b1, s1⟩ := newR_ok (x := .tr t xs) (y := .tr t.n (xs.map (encT t))) hX hS (fun cs h => by simp at h) ⟨_, rfl, rfl, rfl⟩
    obtain ⟨a, b, e, n, s, w, o⟩ := newXs_ok l a1 s1
    have hlt : ∀ q y, get (newCs (l.map encD) (X.next + 1)).2.1 q = some y → X.next + 1 ≤ q := fun q y h => (newCs_le _ _).2 _ (mem_of_get h) |>.1
    refine ⟨a, b1.trans b, e, n, ?_, ⟨?_, w⟩, ?_⟩
    · refine sim_roots s ?_
      intro r st x hl hx
      have e1 : (newCs ((XD.sl t xs :: l).map encD) X.next).2.1 = (X.next, .tr t.n (xs.map (encT t))) :: (newCs (l.map encD) (X.next + 1)).2.1 := rfl
      rw [e1]
      have e2 : (X.newR (.tr t xs)).next = X.next + 1 := rfl
      rw [e2]
      simp only [List.cons_append, get]
      split
      · rename_i h
        subst h
        rw [get_append]
        cases hg : get (newCs (l.map encD) (X.next + 1)).2.1 X.next with
        | some y => have := hlt _ _ hg; omega
        | none => simp only [get, if_true]
      · rename_i h
        rw [get_append, get_append]
        cases hg : get (newCs (l.map encD) (X.next + 1)).2.1 r with
        | some y => rfl
        | none => simp only [get]; rw [if_neg h]
    · have hk := newR_lk X (.tr t xs)
      -- the new root may only stay
      left
      have : lk (newXs l (X.newR (.tr t xs))).2.roots X.next = some (X.stamp, .tr t xs) := by
        have key : ∀ (l : List XD) (Y : XSt) (q : Nat), q < Y.next → lk (newXs l Y).2.roots q = lk Y.roots q := by
          intro l
          induction l with
          | nil => intro Y q _; rfl
          | cons d l ih =>
            intro Y q hq
            cases d with
            | lf c => exact ih Y q hq
            | sl t' ys =>
              show lk (newXs l (Y.newR (.tr t' ys))).2.roots q = _
              rw [ih (Y.newR (.tr t' ys)) q (Nat.lt_succ_of_lt hq)]
              simp only [XSt.newR]; rw [lk_cons, if_neg (by simp only; omega)]
        rw [key l _ _ (Nat.lt_succ_self X.next)]
        exact hk
      show cC (newXs l (X.newR (.tr t xs))).2.roots (.rw X.next) = .rf X.next [] t.n 0 (xs.map (encT t)).length
      simp only [cC, this, List.length_map]
    · intro c hc
      have e3 : (newXs (.sl t xs :: l) X).1 = .rw X.next :: (newXs l (X.newR (.tr t xs))).1 := rfl
      rw [e3] at hc
      rcases List.mem_cons.1 hc with rfl | hc
      · show X.next < _
        exact Nat.lt_of_lt_of_le (Nat.lt_succ_self X.next) b.next
      · exact o c hc
theorem resCells_enc:∀(rs:List (Bool×Ty)) (y:Tp (rs.map (·.2))),(resCells rs y).map encD=(argsD rs y).flatMap (·.2)
 | [],_=>rfl
 | (ag,t)::rs,y=>by simp only[resCells,List.map_append,tcells_enc,resCells_enc rs,argsD,List.flatMap_cons]
theorem resAs_wk {R:XRs}:∀(rs:List (Bool×Ty)) (y:Tp (rs.map (·.2))) (us:List C) (cs:List XC),All2 WkC us (cs.map (cC R))->cs.length=((argsD rs y).flatMap (·.2)).length->All2 WkA (newRes (argsD rs y) us) ((resAs rs cs).map (cA R))
 | [],_,_,_,_,_=>trivial
 | (ag,t)::rs,y,us,cs,h,hl=>by
  simp only[argsD,newRes,resAs,List.map_cons]
  have hn:=encT_len t (Tp.hd t _ y)
  refine⟨?_, ?_⟩
  ·rw[hn]
   have ht:=wk_take (n:=t.n) h
   rw[<-List.map_take]at ht
   cases ag with
   | true=>simp only[newA,if_true];exact ht
   | false =>
    simp only[newA,Bool.false_eq_true,if_false]
    match h1:us.take t.n,h2:cs.take t.n with
    | [],[]=>trivial
    | [u],[c]=>rw[h1,h2]at ht;exact ht.1
    | [],_::_=>rw[h1,h2]at ht;exact ht.elim
    | _::_,[]=>rw[h1,h2]at ht;exact ht.elim
    | [_],_::_::_=>rw[h1,h2]at ht;exact ht.2.elim
    | _::_::_,[_]=>rw[h1,h2]at ht;exact ht.2.elim
    | _::_::_,_::_::_=>trivial
  ·rw[hn]
   have hd:=wk_drop (n:=t.n) h
   rw[<-List.map_drop]at hd
   refine resAs_wk rs _ _ _ hd ?_
   simp only[argsD,List.flatMap_cons,List.length_append,hn]at hl
   rw[List.length_drop,hl]
   omega
theorem resX_wk {R:XRs}{ys:List A}{xs:List XA}(h:All2 WkA ys (xs.map (cA R))):WkV (resV ys) (cV R (resX xs)):=by
 match ys,xs,h with
 | [],[],_=>exact trivial
 | [y],[x],h=>exact h.1
 | y::y'::ys,x::x'::xs,h=>exact h
 | [_],_::_::_,h=>exact h.2.elim
 | _::_::_,[_],h=>exact h.2.elim
theorem resAs_ok {R:XRs}{nx st:Nat}:∀(rs:List (Bool×Ty)) (cs:List XC),(∀c∈cs,okC R nx st c)->∀x∈resAs rs cs,okA R nx st x
 | [],_,_,x,hx=>by simp [resAs]at hx
 | (ag,t)::rs,cs,h,x,hx=>by
  simp only[resAs,List.mem_cons]at hx
  rcases hx with rfl|hx
  ·cases ag with
   | true=>exact fun c hc=>h c (List.mem_of_mem_take hc)
   | false =>
    simp only
    split
    ·rename_i c hc
     exact h c (List.mem_of_mem_take (i:=t.n) (by rw[hc];exact List.mem_cons_self))
    ·exact fun c hc=>by simp at hc
  ·exact resAs_ok rs _ (fun c hc=>h c (List.mem_of_mem_drop hc)) x hx
theorem resX_okV {R:XRs}{nx st:Nat}{xs:List XA}(h:∀x∈xs,okA R nx st x):okV R nx st (resX xs):=by
 match xs,h with
 | [],_=>exact fun x hx=>by simp at hx
 | [x],h=>exact h x List.mem_cons_self
 | x::y::l,h=>exact h
section
variable {β:Type} {X:XSt} {S:St} {out:β} {P:Program}
theorem cd_sees (hS:SimX X S){c:XC}{d:D}(h:CD X.roots c d):seesC S.roots (cC X.roots c) d:=by
 rcases h with ⟨v,h1,rfl⟩|⟨n,rfl,rfl⟩|⟨t,ws,r,p,lo,l,h1,h2,h3,h4,rfl,h6⟩
 ·rw[h1];rfl
 ·exact⟨rfl,rfl⟩
 ·rw[h1];exact⟨rfl,h6,l,node_sim hS h2,h3,h4.symm⟩
theorem cds_sees (hS:SimX X S):∀{cs:List XC}{ds:List D},All2 (CD X.roots) cs ds->All2 (seesC S.roots) (cs.map (cC X.roots)) ds
 | [],[],_=>trivial
 | _::_,_::_,h=>⟨cd_sees hS h.1,cds_sees hS h.2⟩
 | [],_::_,h=>h.elim
 | _::_,[],h=>h.elim
theorem argS_ok (hX:XOk X) (hS:SimX X S){ag:Bool}{t:Ty}{v:XV}{y:V}{f:t.den->Option β}(hw:WkV y (cV X.roots v)) (ho:okV X.roots X.next X.stamp v) (h:argS X.roots ag t v f=some out):∃x,f x=some out/\seesV S.roots y (ag,encT t x):=by
 unfold argS at h
 split at h
 ·rename_i c
  obtain⟨x,c0,rest,hc,h,hcd⟩:=readT_ok (nx:=X.next) (st:=X.stamp) t [c] _ out (fun c' hc=>by simp only[List.mem_singleton]at hc;subst hc;exact ho) h
  split at h
  ·rw[List.append_nil]at hc
   subst hc
   refine⟨x,h, ?_⟩
   match hd:encT t x,hcd with
   | [d],hcd =>
    rw[hw.c hcd.1.ne]
    exact cd_sees hS hcd.1
  ·simp at h
 ·rename_i cs
  obtain⟨x,c0,rest,hc,h,hcd⟩:=readT_ok (nx:=X.next) (st:=X.stamp) t cs _ out ho h
  split at h
  ·rw[List.append_nil]at hc
   subst hc
   refine⟨x,h, ?_⟩
   cases y with
   | a z=>cases z with
    | ag ys =>
     have:=cd_known hcd hw
     subst this
     exact cds_sees hS hcd
    | c _=>exact hw.elim
   | _=>exact hw.elim
  ·simp at h
 ·rename_i r n
  split at h
  ·rename_i t' f
   split at h
   ·rename_i s cs hl
    split at h
    ·rename_i hb
     simp only[Bool.and_eq_true]at hb
     have hb1:=Nat.eq_of_beq_eq_true hb.1
     have hb2:=Nat.eq_of_beq_eq_true hb.2
     obtain⟨xs,h,hxl,hcd⟩:=readN_ok (nx:=X.next) (st:=X.stamp) n _ _ out (by
      intro c hc
      obtain⟨e,he,rfl⟩:=List.mem_map.1 hc
      exact (hX.box r s cs hl e he).2) h
     refine⟨xs,h, ?_⟩
     simp only[cV,hl]at hw
     cases y with
     | sb r' n' =>
      obtain⟨rfl,rfl⟩:=hw
      obtain⟨bs,g1,g2⟩:=box_sim hS hl
      have g3:All2 WkC bs ((cs.map (·.2)).map (cC X.roots)):=by rw[List.map_map];exact g2
      have:=cd_known hcd g3
      subst this
      simp only[encT,hb1]
      refine⟨_,g1,by simpa using hb2,by simp [hxl], ?_⟩
      clear h g1 g2 g3 hl hb2 hxl hb ho
      have key:∀(us:List XC) (xs:List t'.den),All2 (CD X.roots) us (xs.map (encT t')).flatten->All2 (fun c e=>∃d,e=[d]/\seesC S.roots c d) (us.map (cC X.roots)) (xs.map (encT t')):=by
       intro us xs
       induction xs generalizing us with
       | nil=>intro h;cases us with
        | nil=>trivial
        | cons _ _=>exact h.elim
       | cons x xs ih =>
        intro h
        simp only[List.map_cons,List.flatten_cons]at h ⊢
        have hx:=encT_len t' x
        rw[hb1]at hx
        match he:encT t' x,hx with
        | [d],_ =>
         rw[he]at h
         match us,h with
         | u::us,h=>exact⟨⟨d,rfl,cd_sees hS h.1⟩,ih us h.2⟩
      exact key _ _ hcd
     | _=>exact hw.elim
    ·simp at h
   ·simp at h
  ·simp at h
 ·simp at h
theorem getS_ok (hX:XOk X) (hS:SimX X S):∀(as:List (Bool×Ty)) (vs:List XV) (ys:List V) (k:Tp (as.map (·.2))->Option β),All2 (fun y v=>WkV y (cV X.roots v)/\okV X.roots X.next X.stamp v) ys vs->getS X.roots as vs k=some out ->
  ∃x,k x=some out/\All2 (seesV S.roots) ys (argsD as x)
 | [],[],[],k,_,h=>⟨(),h,trivial⟩
 | (ag,t)::as,v::vs,y::ys,k,hw,h=>by
  simp only[getS]at h
  obtain⟨x,h,h1⟩:=argS_ok hX hS hw.1.1 hw.1.2 h
  obtain⟨xs,h,h2⟩:=getS_ok hX hS as vs ys _ hw.2 h
  refine⟨_,h, ?_⟩
  simp only[argsD,Tp.hd_mk,Tp.tl_mk]
  exact⟨h1,h2⟩
 | [],_::_,_,_,_,h=>by simp [getS]at h
 | _::_,[],_,_,_,h=>by simp [getS]at h
 | [],[],_::_,_,h,_=>h.elim
 | _::_,_::_,[],_,h,_=>h.elim
def ClT {β:Type}(X:XSt) (S:St) (T:KW->Prop) (k:XV->XSt->Option β) (out:β):Prop :=
 ∃xv X',k xv X'=some out/\XOk X'/\Ext X X'/\okV X'.roots X'.next X'.stamp xv/\X'.env=X.env /\
  ∃v ks roots,WkV v (cV X'.roots xv)/\SimX X' ⟨killEnv ks S.env,roots,X'.next,S.fix⟩/\(ks=[]/\∀r s x,lk X'.roots r=some (s,x)->s<X.stamp->get roots r=get S.roots r)/\∀K:KW,K v ks roots X'.next->T K
theorem ClT.mono {β:Type}{X:XSt}{S:St}{T T':KW->Prop}{k:XV->XSt->Option β}{out:β}(h:ClT X S T k out) (ht:∀K,T K->T' K):ClT X S T' k out:=by
 obtain⟨a,b,c,d,e,f,g,h1,h2,h3,h4,h5,h6,h7⟩:=h
 exact⟨a,b,c,d,e,f,g,h1,h2,h3,h4,h5,h6,fun K hK=>ht K (h7 K hK)⟩
abbrev ClOk {β:Type} (P:Program) (X:XSt) (S:St) (f:FuncId) (args:List Opd) (k:XV->XSt->Option β) (out:β):Prop:=ClT X S (fun K=>evJ P S K (.wr (.call f args))) k out
theorem args_sim (hX:XOk X) (hS:SimX X S):∀args:List Opd,All2 (fun y v=>WkV y (cV X.roots v)/\okV X.roots X.next X.stamp v) (args.map S.opd) (args.map X.opd)
 | []=>trivial
 | x::l=>⟨⟨opd_sim hS x,opd_okV hX x⟩,args_sim hX hS l⟩
theorem argsD_len (rs:List (Bool×Ty)) (y:Tp (rs.map (·.2))):((resCells rs y).map encD).length=((argsD rs y).flatMap (·.2)).length:=by rw[resCells_enc]
theorem newXs_len:∀(l:List XD) (X:XSt),(newXs l X).1.length=l.length
 | [],_=>rfl
 | .lf c::l,X=>by simp only[newXs,List.length_cons,newXs_len l]
 | .sl t xs::l,X=>by simp only[newXs,List.length_cons,newXs_len l]
theorem seeV_ok (hX:XOk X) (hS:SimX X S){e:SEnt P}{vs:List XV}{ys:List V}(hv:All2 (fun y v=>WkV y (cV X.roots v)/\okV X.roots X.next X.stamp v) ys vs){k:XV->XSt->Option β}(h:seeX X e vs k=some out):ClT X S (fun K=>callSee P S e.f ys K) k out:=by
 unfold seeX at h
 obtain⟨x,h,h1⟩:=getS_ok hX hS e.args _ _ _ hv h
 obtain⟨y,hy,h⟩:=bnd_some h
 have hnx:S.next=X.next:=hS.next
 have hS':SimX X ⟨S.env,S.roots,X.next,S.fix⟩:=⟨rfl,hS.fix,hS.env,hS.roots⟩
 obtain⟨a,b,c,d,s,w,o⟩:=newXs_ok (resCells e.res y) hX hS'
 rw[resCells_enc]at d s w
 refine⟨_,_,h,a,b,resX_okV (resAs_ok _ _ o),c,resV (newRes (argsD e.res y) (newCs ((argsD e.res y).flatMap (·.2)) S.next).1),[],(newCs ((argsD e.res y).flatMap (·.2)) S.next).2.1++S.roots, ?_, ?_,⟨rfl,fun r st z hl hs=>?_⟩, ?_⟩
 ·rw[hnx]
  exact resX_wk (resAs_wk _ _ _ _ w (by rw[newXs_len,<-argsD_len,List.length_map]))
 ·rw[killEnv_nil,hnx];exact s
 ·have h0:=b.roots r st z hl hs
  have hlt:=(hX.ids r st z h0).1
  rw[get_append]
  cases hg:get (newCs ((argsD e.res y).flatMap (·.2)) S.next).2.1 r with
  | none=>rfl
  | some w'=>have:=((newCs_le _ _).2 _ (mem_of_get hg)).1;simp only at this;omega
 ·intro K hK
  refine⟨_,_,e.ok x y hy,h1, ?_⟩
  rw[hnx];rw[hnx,d]at hK
  exact hK
theorem seeX_ok (hX:XOk X) (hS:SimX X S){e:SEnt P}{args:List Opd}{k:XV->XSt->Option β}(h:seeX X e (args.map X.opd) k=some out):ClOk P X S e.f args k out :=
 (seeV_ok hX hS (args_sim hX hS args) h).mono fun K h=>.inr (.inl h)
end
end Go.Vs
namespace Go.Vs
variable [Glb]
def concR (R:XRs):XRs->List (Nat×Root)
 | []=>[]
 | e::l=>match cRt R e.2.2 with
  | some y=>(e.1,y)::concR R l
  | none=>del (concR R l) e.1
def concS (X:XSt):St:=⟨X.env.map fun e=>(e.1,cV X.roots e.2.2),concR X.roots X.roots,X.next,X.fix⟩
theorem get_concR (R:XRs):∀(l:XRs) (r:Nat),get (concR R l) r=match lk l r with|some (_,x)=>cRt R x|none=>none
 | [],r=>rfl
 | (q,s,x)::l,r=>by
  simp only[concR,lk_cons]
  cases hx:cRt R x with
  | some y =>
   simp only[get]
   split
   ·simp only[hx]
   ·exact get_concR R l r
  | none =>
   rw[get_del]
   split
   ·simp only[hx]
   ·exact get_concR R l r
theorem get_concE (R:XRs):∀(l:List (Nat×Nat×XV)) (t:Nat),get (l.map fun e=>(e.1,cV R e.2.2)) t=(lk l t).map fun e=>cV R e.2
 | [],t=>rfl
 | (q,s,x)::l,t=>by
  simp only[List.map_cons,get,lk_cons]
  split
  ·rfl
  ·exact get_concE R l t
theorem WkR.refl:∀x:Root,(∀cs,x≠.ib cs)->WkR x x
 | .tr _ _,_=>⟨rfl,rfl⟩
 | .im _ _,_=>⟨rfl,rfl⟩
 | .bx cs,_=>All2.refl WkC.refl cs
 | .ib cs,h=>(h cs rfl).elim
theorem sim_conc (X:XSt):SimX X (concS X):=by
 refine⟨rfl,rfl, ?_, ?_⟩
 ·intro t s v hl
  exact .inr ⟨cV X.roots v,by simp only[concS,get_concE,hl];rfl,WkV.refl _⟩
 ·intro r s x hl y hy
  refine⟨y,by simp only[concS,get_concR,hl];exact hy,WkR.refl y fun cs e=>?_⟩
  subst e
  cases x<;>simp [cRt]at hy
theorem crW {pl:Pls}{nx:Nat}{y x:C}{v:Value}(h:CR pl nx y v) (w:WkC y x):CR pl nx x v:=by
 rcases w with rfl|rfl
 ·exact h
 ·exact CR.one h
theorem crsW {pl:Pls}{nx:Nat}:∀{ys xs:List C}{vs:List Value},All2 (CR pl nx) ys vs->All2 WkC ys xs->All2 (CR pl nx) xs vs
 | [],[],[],_,_=>trivial
 | _::_,_::_,_::_,h,w=>⟨crW h.1 w.1,crsW h.2 w.2⟩
 | [],[],_::_,h,_=>h.elim
 | [],_::_,_,_,w=>w.elim
 | _::_,[],_,_,w=>w.elim
 | _::_,_::_,[],h,_=>h.elim
theorem arW {pl:Pls}{nx:Nat}{y x:A}{v:Value}(h:AR pl nx y v) (w:WkA y x):AR pl nx x v:=by
 cases y with
 | c y=>cases x with
  | c x=>exact crW h w
  | ag _=>exact w.elim
 | ag ys=>cases x with
  | c _=>exact w.elim
  | ag xs=>obtain⟨vs,rfl,h⟩:=h;exact⟨vs,rfl,crsW h w⟩
theorem arsW {pl:Pls}{nx:Nat}:∀{ys xs:List A}{vs:List Value},All2 (AR pl nx) ys vs->All2 WkA ys xs->All2 (AR pl nx) xs vs
 | [],[],[],_,_=>trivial
 | _::_,_::_,_::_,h,w=>⟨arW h.1 w.1,arsW h.2 w.2⟩
 | [],[],_::_,h,_=>h.elim
 | [],_::_,_,_,w=>w.elim
 | _::_,[],_,_,w=>w.elim
 | _::_,_::_,[],h,_=>h.elim
theorem vrW {pl:Pls}{nx:Nat}{y x:V}{v:Value}(h:VR pl nx y v) (w:WkV y x):VR pl nx x v:=by
 cases x with
 | un=>trivial
 | a x=>cases y with
  | a y=>exact arW h w
  | _=>exact w.elim
 | tp xs=>cases y with
  | tp ys=>obtain⟨vs,rfl,h⟩:=h;exact⟨vs,rfl,arsW h w⟩
  | _=>exact w.elim
 | fn f c=>cases y with
  | fn g d=>obtain⟨rfl,w⟩:=w;obtain⟨vs,rfl,h⟩:=h;exact⟨vs,rfl,arsW h w⟩
  | _=>exact w.elim
 | sb r n=>cases y with
  | sb r' n'=>obtain⟨rfl,rfl⟩:=w;exact h
  | _=>exact w.elim
theorem rootW {st:Nat->Nat->Prop}{w:World}{g:Lab}{pl:Pls}{nx r:Nat}{y x:Root}(h:RootOk st w g pl nx r y) (k:WkR y x):RootOk st w g pl nx r x:=by
 cases y with
 | tr s e=>cases x with
  | tr _ _=>obtain⟨rfl,rfl⟩:=k;exact h
  | _=>exact k.elim
 | im s e=>cases x with
  | im _ _=>obtain⟨rfl,rfl⟩:=k;exact h
  | _=>exact k.elim
 | bx ys=>cases x with
  | bx xs =>
   intro c x hx
   obtain⟨y,hy,hw⟩:=wk_get k hx
   obtain⟨v,a,b,l,f⟩:=h c y hy
   exact⟨v,a,crW b hw,l,f⟩
  | _=>exact k.elim
 | ib _=>cases x<;>exact k.elim
theorem Le.ren2 {S T:St}(s:List (Nat×Nat)) (hf:T.fix=S.fix) (hok:okRen s T.next S.fix=true) (he:∀t x,get T.env t=some x->x=.un\/∃y,get S.env t=some y/\WkV (y.map (renC s)) x)
  (hr:∀r x,get T.roots r=some x->∃r0 y,get S.roots r0=some y/\get s r0=some r/\WkR (renRoot s y) x):Le S T:=⟨hf,fun N w0 own0 pl0 g pl a w hR=>by
 simp only[okRen,Bool.and_eq_true,decide_eq_true_eq,List.all_eq_true,Bool.or_eq_true,beq_iff_eq]at hok
 obtain⟨⟨hnd,hall⟩,hle⟩:=hok
 obtain⟨h1,h2,h3,h4⟩:=hR
 obtain⟨a1,a2,a3,a4,a5,a6⟩:=h1
 have hk:∀r r',get s r=some r'->r'<T.next/\∀p,(fun r p=>pl (invN s r) p) r' p=pl r p:=fun r r' h=>⟨(hall _ (get_mem h)).1,fun p=>by simp only[invN_get hnd h]⟩
 refine⟨fun b o=>(g b o).bind fun x=>(get s x.1).map fun r'=>(r',x.2),fun r p=>pl (invN s r) p,⟨⟨a1, ?_, ?_, ?_,Nat.le_refl _, ?_⟩,h2,h3, ?_⟩⟩
 ·intro b o x hx
  simp only[Option.bind_eq_some_iff,Option.map_eq_some_iff]at hx
  obtain⟨y,hy,r',hr',rfl⟩:=hx
  obtain⟨b1,b2,_⟩:=a2 b o y hy
  exact⟨b1,b2,(hk _ _ hr').1⟩
 ·intro r p hlt
  rw[hf]at hlt
  have:invN s r=r:=invN_fix fun x hx e=>by
   rcases (hall x hx).2 with h|h
   ·omega
   ·omega
  simp only[this]
  exact a3 r p hlt
 ·rw[hf];exact hle
 ·intro r x hx
  obtain⟨r0,y,h5,h6,h7⟩:=hr r x hx
  refine⟨(hk _ _ h6).1,rootW ((a6 r0 y h5).2.ren hk ?_ h6) h7⟩
  intro b o r1 p r2 h7 h8
  simp only[h7,Option.bind_some,h8,Option.map_some]
 ·intro t x hx
  rcases he t x hx with rfl|⟨y,hy,hw⟩
  ·trivial
  ·exact vrW (VR.killed (fun z u hz=>hz.ren hk) (h4 t y hy)) hw⟩
inductive Bc where
 | K
 | U
 | L (t:Ty)
 | O (t:Ty)
inductive It where
 | kt (t:Nat)
 | lt (t:Nat) (ty:Ty)
 | ot (t:Nat) (ty:Ty)
 | bx (t:Nat) (cs:List Bc)
 | sr (t:Nat) (ty:Ty)
def Bc.tys:List Bc->List Ty
 | []=>[]
 | .K::m=>Bc.tys m
 | .U::m=>Bc.tys m
 | .L t::m=>t::Bc.tys m
 | .O t::m=>Ty.L t::Bc.tys m
def appT:List Ty->List Ty->List Ty
 | [],m=>m
 | t::l,m=>t::appT l m
def It.tys:List It->List Ty
 | []=>[]
 | .kt _::l=>It.tys l
 | .lt _ t::l=>t::It.tys l
 | .ot _ t::l=>.L t::It.tys l
 | .bx _ cs::l=>appT (Bc.tys cs) (It.tys l)
 | .sr _ t::l=>.L t::It.tys l
abbrev Sg:=(t:Ty)×t.den
def spread:(ts:List Ty)->Tp ts->List Sg
 | [],_=>[]
 | t::ts,x=>⟨t,Tp.hd t ts x⟩::spread ts (Tp.tl t ts x)
def coll {β:Type}:(ts:List Ty)->List Sg->(Tp ts->Option β)->Option β
 | [],[],k=>k ()
 | t::ts,x::l,k=>if h:x.1=t then coll ts l fun xs=>k (Tp.mk t ts (h ▸ x.2) xs) else none
 | _,_,_=>none
theorem coll_some {β:Type}{out:β}:∀(ts:List Ty) (l:List Sg) (k:Tp ts->Option β),coll ts l k=some out->∃x,k x=some out/\spread ts x=l
 | [],[],k,h=>⟨(),h,rfl⟩
 | t::ts,x::l,k,h=>by
  simp only[coll]at h
  split at h
  ·rename_i e
   obtain⟨xs,h,h1⟩:=coll_some ts l _ h
   refine⟨_,h, ?_⟩
   obtain⟨t',x⟩:=x
   simp only at e
   subst e
   simp only[spread,Tp.hd_mk,Tp.tl_mk,h1]
  ·simp at h
 | [],_::_,_,h=>by simp [coll]at h
 | _::_,[],_,h=>by simp [coll]at h
def leafS:Sg->XC
 | ⟨.I k,z⟩=>.i k z
 | ⟨.Y,b⟩=>.y b
 | ⟨.B,x⟩=>.b x
 | ⟨.S,l⟩=>.s l
 | ⟨_,_⟩=>.un
def pkL (c:XC) (ty:Ty):Option Sg:=match ty,c with
 | .I k,.i k' z=>match kEq k k' with
  | true=>some ⟨.I k,z⟩
  | false=>none
 | .Y,.y b=>some ⟨.Y,b⟩
 | .B,.b x=>some ⟨.B,x⟩
 | .S,.s l=>some ⟨.S,l⟩
 | _,_=>none
def pkO (R:XRs) (c:XC):Option (Sg×Nat):=match c with
 | .rw r=>match lk R r with
  | some (_,.tr t xs)=>some (⟨.L t,xs⟩,r)
  | _=>none
 | _=>none
def XSt.tmp (X:XSt) (t:Nat):XV:=X.opd (.t t)
def boxV:XV->Option Nat
 | .a (.c (.pb r _))=>some r
 | .fn _ cs=>match cs with
  | .c (.pb r _)::_=>some r
  | _=>none
 | _=>none
def boxOf (X:XSt) (t:Nat):Option (Nat×List (Nat×XC)):=match boxV (X.tmp t) with
 | some r=>match lk X.roots r with
  | some (_,.bx cs)=>some (r,cs)
  | _=>none
 | none=>none
def treeOf (X:XSt) (t:Nat):Option Nat:=match X.tmp t with
 | .a (.c (.rw r))=>some r
 | _=>none
def sameT (X X':XSt) (t:Nat):Bool:=match lk X.env t,lk X'.env t with
 | some (s,_),some (s',_)=>Nat.beq s s'
 | _,_=>false
def pkB (R:XRs):List Bc->List (Nat×XC)->List (Nat×XC)->Nat->Option (List Sg×List (Nat×Nat)×Nat)
 | [],[],[],n=>some ([],[],n)
 | .K::bs,e::es,e'::es',n=>match Nat.beq e.1 e'.1 with
  | true=>pkB R bs es es' n
  | false=>none
 | .U::bs,_::es,_::es',n=>pkB R bs es es' n
 | .L ty::bs,_::es,e'::es',n=>match pkL e'.2 ty,pkB R bs es es' n with
  | some v,some (vs,s,m)=>some (v::vs,s,m)
  | _,_=>none
 | .O _::bs,_::es,e'::es',n=>match pkO R e'.2,pkB R bs es es' (n+1) with
  | some (v,r),some (vs,s,m)=>some (v::vs,(r,n)::s,m)
  | _,_=>none
 | _,_,_,_=>none
def pk (X X':XSt):List It->Nat->Option (List Sg×List (Nat×Nat)×Nat)
 | [],n=>some ([],[],n)
 | .kt t::l,n=>match sameT X X' t with
  | true=>pk X X' l n
  | false=>none
 | .lt t ty::l,n=>match X'.tmp t with
  | .a (.c c)=>match pkL c ty,pk X X' l n with
   | some v,some (vs,s,m)=>some (v::vs,s,m)
   | _,_=>none
  | _=>none
 | .ot t ty::l,n=>match X'.tmp t with
  | .a (.c c)=>match pkO X'.roots c,pk X X' l (n+1) with
   | some (v,r),some (vs,s,m)=>some (v::vs,(r,n)::s,m)
   | _,_=>none
  | _=>none
 | .bx t cs::l,n=>match sameT X X' t,boxOf X t,boxOf X' t with
  | true,some (r,es),some (r',es')=>match Nat.beq r r',pkB X'.roots cs es es' n with
   | true,some (vs,s,m)=>match pk X X' l m with
    | some (vs2,s2,m2)=>some (vs++vs2,s++s2,m2)
    | none=>none
   | _,_=>none
  | _,_,_=>none
 | .sr t ty::l,n=>match sameT X X' t,treeOf X t with
  | true,some r=>match lk X'.roots r with
   | some (_,.tr t xs)=>match pk X X' l n with
    | some (vs,s,m)=>some (⟨.L t,xs⟩::vs,s,m)
    | none=>none
   | _=>none
  | _,_=>none
def keptT:List It->List Nat
 | []=>[]
 | .kt t::l=>t::keptT l
 | .bx t _::l=>t::keptT l
 | .sr t _::l=>t::keptT l
 | _::l=>keptT l
def chgR (X:XSt):List It->List Nat
 | []=>[]
 | .bx t _::l=>match boxOf X t with
  | some (r,_)=>r::chgR X l
  | none=>chgR X l
 | .sr t _::l=>match treeOf X t with
  | some r=>r::chgR X l
  | none=>chgR X l
 | _::l=>chgR X l
def refC:XC->List Nat
 | .rw r=>[r]
 | .rv r _ _=>[r]
 | .rf r _ _ _ _ _=>[r]
 | .pe r _ _ _ _ _ _=>[r]
 | .pb r _=>[r]
 | _=>[]
def refCs:List XC->List Nat
 | []=>[]
 | c::l=>refC c++refCs l
def refAs:List XA->List Nat
 | []=>[]
 | .c c::l=>refC c++refAs l
 | .ag cs::l=>refCs cs++refAs l
def refV:XV->List Nat
 | .a x=>refAs [x]
 | .tp xs=>refAs xs
 | .sb r _=>[r]
 | .fn _ cs=>refAs cs
 | _=>[]
def keptB:List Bc->List (Nat×XC)->List Nat
 | .K::bs,e::es=>refC e.2++keptB bs es
 | _::bs,_::es=>keptB bs es
 | _,_=>[]
def refsI (X:XSt):List It->List Nat
 | []=>[]
 | .kt t::l=>refV (X.tmp t)++refsI X l
 | .bx t cs::l=>match boxOf X t with
  | some (_,es)=>keptB cs es++refsI X l
  | none=>refsI X l
 | _::l=>refsI X l
def closeR (X:XSt):Nat->List Nat->List Nat
 | 0,_=>[]
 | n+1,l=>l++closeR X n (l.flatMap fun r=>match lk X.roots r with
  | some (_,.bx cs)=>refCs (cs.map (·.2))
  | _=>[])
def addN (l:List Nat):List Nat->List Nat
 | []=>l
 | r::m=>match hasN r l with
  | true=>addN l m
  | false=>addN (r::l) m
def keepR (X:XSt) (its:List It):List Nat:=(addN [] (closeR X 3 (refsI X its))).filter fun r=>!hasN r (chgR X its)
def keptE (X:XSt):List Nat->List (Nat×Nat×XV)
 | []=>[]
 | t::l=>match lk X.env t with
  | some e=>(t,e)::keptE X l
  | none=>keptE X l
def keptRs (X:XSt):List Nat->XRs
 | []=>[]
 | r::l=>match lk X.roots r with
  | some e=>(r,e)::keptRs X l
  | none=>keptRs X l
def sameR (X X':XSt):List Nat->Bool
 | []=>true
 | r::l=>match lk X.roots r,lk X'.roots r with
  | some (s,_),some (s',_)=>Nat.beq s s'&&sameR X X' l
  | none,_=>sameR X X' l
  | _,_=>false
def upB:List Bc->List (Nat×XC)->XSt->List Sg->List ((Nat×XC) ⊕ XC)×XSt×List Sg
 | .K::bs,e::es,A,vs=>let r:=upB bs es A vs;(.inl e::r.1,r.2)
 | .U::bs,_::es,A,vs=>let r:=upB bs es A vs;(.inr .un::r.1,r.2)
 | .L _::bs,_::es,A,v::vs=>let r:=upB bs es A vs;(.inr (leafS v)::r.1,r.2)
 | .O _::bs,_::es,A,v::vs=>match v with
  | ⟨.L t,xs⟩=>let r:=upB bs es (A.newR (.tr t xs)) vs;(.inr (.rw A.next)::r.1,r.2)
  | _=>([],A,[])
 | _,_,A,vs=>([],A,vs)
def stampB (s:Nat):List ((Nat×XC) ⊕ XC)->List (Nat×XC)
 | []=>[]
 | .inl e::l=>e::stampB s l
 | .inr c::l=>(s,c)::stampB s l
def up (X:XSt):List It->XSt->List Sg->XSt
 | [],A,_=>A
 | .kt _::l,A,vs=>up X l A vs
 | .lt t _::l,A,v::vs=>up X l (A.put (some t) (.a (.c (leafS v)))) vs
 | .ot t _::l,A,v::vs=>match v with
  | ⟨.L ty,xs⟩=>up X l ((A.newR (.tr ty xs)).put (some t) (.a (.c (.rw A.next)))) vs
  | _=>A
 | .bx t cs::l,A,vs=>match boxOf X t with
  | some (r,es)=>let q:=upB cs es A vs;up X l (q.2.1.setR r (.bx (stampB q.2.1.stamp q.1))) q.2.2
  | none=>A
 | .sr t _::l,A,v::vs=>match v,treeOf X t with
  | ⟨.L ty,xs⟩,some r=>up X l (A.setR r (.tr ty xs)) vs
  | _,_=>A
 | _,A,_=>A
def base0 (X:XSt) (its:List It):XSt:=⟨keptE X (keptT its),keptRs X (keepR X its),X.next,X.stamp,X.fix⟩
def unpackX (X:XSt) (its:List It) (s:Tp (It.tys its)):XSt:=up X its (base0 X its) (spread _ s)
def disjN (l:List Nat):List Nat->Bool
 | []=>true
 | r::m=>match hasN r l with
  | true=>false
  | false=>disjN l m
def packX {β:Type}(X X':XSt) (its:List It) (k:Tp (It.tys its)->Option β):Option β:=match sameR X X' (keepR X its),pk X X' its X.next with
 | true,some (vs,s,_)=>match nodupN (s.map (·.1))&&(disjN (s.map (·.1)) (keepR X its)&&disjN (s.map (·.1)) (chgR X its)) with
  | true=>coll (It.tys its) vs k
  | false=>none
 | _,_=>none
end Go.Vs
namespace Go.Vs
variable [Glb]
theorem chg_ok2 {X A:XSt}(hX:XOk X) (h:XOk A) (hE:Ext X A){r nx:Nat}{x:XR}(hn:A.next<=nx) (hr:r<nx)
  (hb:∀cs,x=.bx cs->∀(c:Nat) (e:Nat×XC),cs[c]? = some e->(e.1=A.stamp\/∃s0 cs0,lk X.roots r=some (s0,.bx cs0)/\cs0[c]? = some e)/\okC A.roots A.next A.stamp e.2) :
  XOk ⟨A.env,(r,A.stamp,x)::A.roots,nx,A.stamp+1,A.fix⟩/\Ext X ⟨A.env,(r,A.stamp,x)::A.roots,nx,A.stamp+1,A.fix⟩:=by
 have old:∀q s y,lk ((r,A.stamp,x)::A.roots) q=some (s,y)->s<A.stamp->lk A.roots q=some (s,y):=by
  intro q s y hl hs
  rw[lk_cons]at hl
  split at hl
  ·simp only[Option.some.injEq,Prod.mk.injEq]at hl;omega
  ·exact hl
 have le:=Nat.le_succ A.stamp
 refine⟨⟨?_, ?_, ?_,Nat.le_trans h.fixle hn⟩,⟨Nat.le_trans hE.next hn,Nat.le_trans hE.stamp le,hE.fix, ?_,hE.env, ?_⟩⟩
 ·intro q s y hl
  rw[lk_cons]at hl
  split at hl
  ·rename_i e
   simp only[Option.some.injEq,Prod.mk.injEq]at hl
   simp only at e
   obtain⟨rfl,_⟩:=hl
   exact⟨by show q<nx;omega,Nat.lt_succ_self _⟩
  ·obtain⟨a,b⟩:=h.ids q s y hl
   exact⟨by show q<nx;omega,Nat.lt_succ_of_lt b⟩
 ·intro t s w hl
  obtain⟨a,b⟩:=h.env t s w hl
  exact⟨Nat.lt_succ_of_lt a,okV.ext hn le old b⟩
 ·intro q s cs hl e he
  rw[lk_cons]at hl
  split at hl
  ·simp only[Option.some.injEq,Prod.mk.injEq]at hl
   obtain⟨c,hc,he'⟩:=List.getElem_of_mem he
   obtain⟨a,b⟩:=hb cs hl.2 c e (by rw[List.getElem?_eq_getElem hc,he'])
   refine⟨?_,okC.ext hn le old b⟩
   rcases a with a|⟨s0,cs0,a1,a2⟩
   ·rw[a];exact Nat.lt_succ_self _
   ·have h1:=(hX.box _ _ _ a1 e (List.mem_of_getElem? a2)).1
    have h2:=hE.stamp
    show e.1<A.stamp+1
    omega
  ·obtain⟨a,b⟩:=h.box q s cs hl e he
   exact⟨Nat.lt_succ_of_lt a,okC.ext hn le old b⟩
 ·intro q s y hl hs
  exact hE.roots q s y (old q s y hl (Nat.lt_of_lt_of_le hs hE.stamp)) hs
 ·intro q s cs hl c e hc hs
  have h2:=hE.stamp
  rw[lk_cons]at hl
  split at hl
  ·rename_i eq
   simp only at eq
   subst eq
   simp only[Option.some.injEq,Prod.mk.injEq]at hl
   rcases (hb cs hl.2 c e hc).1 with a|a
   ·omega
   ·exact a
  ·exact hE.cells q s cs hl c e hc hs
theorem keptE_lk {X:XSt}:∀{l:List Nat}{t:Nat}{e:Nat×XV},lk (keptE X l) t=some e->lk X.env t=some e
 | [],t,e,h=>by simp [keptE,lk]at h
 | q::l,t,e,h=>by
  simp only[keptE]at h
  split at h
  ·rename_i e' he
   rw[lk_cons]at h
   split at h
   ·rename_i hq
    simp only at hq
    subst hq
    simp only[Option.some.injEq]at h
    rw[<-h];exact he
   ·exact keptE_lk h
  ·exact keptE_lk h
theorem keptRs_lk {X:XSt}:∀{l:List Nat}{t:Nat}{e:Nat×XR},lk (keptRs X l) t=some e->lk X.roots t=some e/\t∈l
 | [],t,e,h=>by simp [keptRs,lk]at h
 | q::l,t,e,h=>by
  simp only[keptRs]at h
  split at h
  ·rename_i e' he
   rw[lk_cons]at h
   split at h
   ·rename_i hq
    simp only at hq
    subst hq
    simp only[Option.some.injEq]at h
    rw[<-h];exact⟨he,List.mem_cons_self⟩
   ·obtain⟨a,b⟩:=keptRs_lk h;exact⟨a,List.mem_cons_of_mem _ b⟩
  ·obtain⟨a,b⟩:=keptRs_lk h;exact⟨a,List.mem_cons_of_mem _ b⟩
theorem base0_ok {X:XSt}(h:XOk X) (its:List It):XOk (base0 X its)/\Ext X (base0 X its):=by
 have hr:∀r s x,lk (keptRs X (keepR X its)) r=some (s,x)->s<X.stamp->lk X.roots r=some (s,x):=fun r s x hl _=>(keptRs_lk hl).1
 refine⟨⟨fun r s x hl=>h.ids r s x (keptRs_lk hl).1, ?_, ?_,h.fixle⟩,⟨Nat.le_refl _,Nat.le_refl _,rfl,hr,fun t s v hl _=>keptE_lk hl, ?_⟩⟩
 ·intro t s v hl
  obtain⟨a,b⟩:=h.env t s v (keptE_lk hl)
  exact⟨a,okV.ext (Nat.le_refl _) (Nat.le_refl _) hr b⟩
 ·intro r s cs hl e he
  obtain⟨a,b⟩:=h.box r s cs (keptRs_lk hl).1 e he
  exact⟨a,okC.ext (Nat.le_refl _) (Nat.le_refl _) hr b⟩
 ·intro r s cs hl c e hc _
  exact⟨s,cs,(keptRs_lk hl).1,hc⟩
theorem leafS_ok {R:XRs}{nx st:Nat}(v:Sg):okC R nx st (leafS v):=by
 obtain⟨t,x⟩:=v
 cases t<;>trivial
theorem boxOf_lk {X:XSt}{t r:Nat}{es:List (Nat×XC)}(h:boxOf X t=some (r,es)):∃s,lk X.roots r=some (s,.bx es):=by
 unfold boxOf at h
 split at h
 ·split at h
  ·rename_i s cs hl
   simp only[Option.some.injEq,Prod.mk.injEq]at h
   obtain⟨rfl,rfl⟩:=h
   exact⟨s,hl⟩
  ·simp at h
 ·simp at h
theorem treeOf_lt {X:XSt}(hX:XOk X){t r:Nat}(h:treeOf X t=some r):r<X.next:=by
 unfold treeOf at h
 have hok:=opd_okV hX (.t t)
 simp only[XSt.tmp]at h
 split at h
 ·rename_i r' hx
  simp only[Option.some.injEq]at h
  subst h
  rw[hx]at hok
  exact hok
 ·simp at h
theorem new_ok {X A:XSt}(hX:XOk X) (hA:XOk A) (hE:Ext X A){t:Ty}{xs:List t.den}:XOk (A.newR (.tr t xs))/\Ext X (A.newR (.tr t xs)) :=
 chg_ok2 hX hA hE (Nat.le_succ _) (Nat.lt_succ_self _) (fun cs h=>by simp at h)
theorem upB_ok {X:XSt}(hX:XOk X):∀(bs:List Bc) (es:List (Nat×XC)) (A:XSt) (vs:List Sg),XOk A->Ext X A->(∀e∈es,okC X.roots X.next X.stamp e.2) ->
  XOk (upB bs es A vs).2.1/\Ext X (upB bs es A vs).2.1/\A.next<=(upB bs es A vs).2.1.next/\(∀(c:Nat) (z:(Nat×XC) ⊕ XC),(upB bs es A vs).1[c]? = some z->match z with
   | .inl e=>es[c]? = some e
   | .inr x=>okC (upB bs es A vs).2.1.roots (upB bs es A vs).2.1.next (upB bs es A vs).2.1.stamp x)
 | [],es,A,vs,hA,hE,_=>by simp only[upB];exact⟨hA,hE,Nat.le_refl _,by simp⟩
 | .K::bs,e::es,A,vs,hA,hE,ho=>by
  obtain⟨a,b,c,d⟩:=upB_ok hX bs es A vs hA hE fun e he=>ho e (List.mem_cons_of_mem _ he)
  refine⟨a,b,c, ?_⟩
  intro j z hz
  cases j with
  | zero=>simp only[upB,List.getElem?_cons_zero,Option.some.injEq]at hz;subst hz;rfl
  | succ j=>exact d j z (by simpa [upB] using hz)
 | .U::bs,e::es,A,vs,hA,hE,ho=>by
  obtain⟨a,b,c,d⟩:=upB_ok hX bs es A vs hA hE fun e he=>ho e (List.mem_cons_of_mem _ he)
  refine⟨a,b,c, ?_⟩
  intro j z hz
  cases j with
  | zero=>simp only[upB,List.getElem?_cons_zero,Option.some.injEq]at hz;subst hz;trivial
  | succ j=>exact d j z (by simpa [upB] using hz)
 | .L ty::bs,e::es,A,v::vs,hA,hE,ho=>by
  obtain⟨a,b,c,d⟩:=upB_ok hX bs es A vs hA hE fun e he=>ho e (List.mem_cons_of_mem _ he)
  refine⟨a,b,c, ?_⟩
  intro j z hz
  cases j with
  | zero=>simp only[upB,List.getElem?_cons_zero,Option.some.injEq]at hz;subst hz;exact leafS_ok v
  | succ j=>exact d j z (by simpa [upB] using hz)
 | .O ty::bs,e::es,A,⟨t,x⟩::vs,hA,hE,ho=>by
  cases t with
  | L t =>
   obtain⟨a1,b1⟩:=new_ok (t:=t) (xs:=x) hX hA hE
   obtain⟨a,b,c,d⟩:=upB_ok hX bs es (A.newR (.tr t x)) vs a1 b1 fun e he=>ho e (List.mem_cons_of_mem _ he)
   refine⟨a,b,Nat.le_trans (Nat.le_succ _) c, ?_⟩
   intro j z hz
   cases j with
   | zero =>
    simp only[upB,List.getElem?_cons_zero,Option.some.injEq]at hz;subst hz
    exact Nat.lt_of_lt_of_le (Nat.lt_succ_self A.next) c
   | succ j=>exact d j z (by simpa [upB] using hz)
  | _=>simp only[upB];exact⟨hA,hE,Nat.le_refl _,by simp⟩
 | .K::bs,[],A,vs,hA,hE,_=>by simp only[upB];exact⟨hA,hE,Nat.le_refl _,by simp⟩
 | .U::bs,[],A,vs,hA,hE,_=>by simp only[upB];exact⟨hA,hE,Nat.le_refl _,by simp⟩
 | .L _::bs,[],A,vs,hA,hE,_=>by simp only[upB];exact⟨hA,hE,Nat.le_refl _,by simp⟩
 | .O _::bs,[],A,vs,hA,hE,_=>by simp only[upB];exact⟨hA,hE,Nat.le_refl _,by simp⟩
 | .L _::bs,_::_,A,[],hA,hE,_=>by simp only[upB];exact⟨hA,hE,Nat.le_refl _,by simp⟩
 | .O _::bs,_::_,A,[],hA,hE,_=>by simp only[upB];exact⟨hA,hE,Nat.le_refl _,by simp⟩
theorem stampB_get {s:Nat}:∀{l:List ((Nat×XC) ⊕ XC)}{c:Nat}{e:Nat×XC},(stampB s l)[c]? = some e->∃z,l[c]? = some z/\(z=.inl e\/∃x,z=.inr x/\e=(s,x))
 | [],c,e,h=>by simp [stampB]at h
 | z::l,0,e,h=>by
  cases z with
  | inl e'=>simp only[stampB,List.getElem?_cons_zero,Option.some.injEq]at h;subst h;exact⟨_,rfl,.inl rfl⟩
  | inr x=>simp only[stampB,List.getElem?_cons_zero,Option.some.injEq]at h;subst h;exact⟨_,rfl,.inr ⟨x,rfl,rfl⟩⟩
 | z::l,c+1,e,h=>by
  have:(stampB s l)[c]? = some e:=by cases z<;>simpa [stampB] using h
  simpa using stampB_get this
theorem up_ok {X:XSt}(hX:XOk X):∀(its:List It) (A:XSt) (vs:List Sg),XOk A->Ext X A->XOk (up X its A vs)/\Ext X (up X its A vs)
 | [],A,vs,hA,hE=>⟨hA,hE⟩
 | .kt t::l,A,vs,hA,hE=>by simp only[up];exact up_ok hX l A vs hA hE
 | .lt t ty::l,A,v::vs,hA,hE=>by
  obtain⟨a,b⟩:=put_ok hA (d:=some t) (v:=.a (.c (leafS v))) (leafS_ok v)
  simp only[up];exact up_ok hX l _ vs a (hE.trans b)
 | .ot t ty::l,A,⟨t',x⟩::vs,hA,hE=>by
  cases t' with
  | L t' =>
   obtain⟨a1,b1⟩:=new_ok (t:=t') (xs:=x) hX hA hE
   obtain⟨a,b⟩:=put_ok a1 (d:=some t) (v:=.a (.c (.rw A.next))) (Nat.lt_succ_self A.next)
   simp only[up];exact up_ok hX l _ vs a (b1.trans b)
  | _=>exact⟨hA,hE⟩
 | .bx t cs::l,A,vs,hA,hE=>by
  simp only[up]
  split
  ·rename_i r es hb
   obtain⟨s,hl⟩:=boxOf_lk hb
   obtain⟨a,b,c,d⟩:=upB_ok hX cs es A vs hA hE (fun e he=>(hX.box r s es hl e he).2)
   have hr:=(hX.ids r s _ hl).1
   obtain⟨a',b'⟩:=chg_ok2 hX a b (x:=.bx (stampB (upB cs es A vs).2.1.stamp (upB cs es A vs).1)) (Nat.le_refl _) (Nat.lt_of_lt_of_le hr b.next) (by
    intro cs' e j en hj
    simp only[XR.bx.injEq]at e
    subst e
    obtain⟨z,hz,h⟩:=stampB_get hj
    have hd:=d j z hz
    rcases h with rfl|⟨x,rfl,rfl⟩
    ·exact⟨.inr ⟨s,es,hl,hd⟩,okC.ext b.next b.stamp b.roots (hX.box r s es hl en (List.mem_of_getElem? hd)).2⟩
    ·exact⟨.inl rfl,hd⟩)
   exact up_ok hX l _ _ a' b'
  ·exact⟨hA,hE⟩
 | .sr t ty::l,A,⟨t',x⟩::vs,hA,hE=>by
  simp only[up]
  split
  ·rename_i t2 x2 r hv ht
   obtain⟨a,b⟩:=chg_ok2 hX hA hE (x:=.tr t2 x2) (Nat.le_refl _) (Nat.lt_of_lt_of_le (treeOf_lt hX ht) hE.next) (fun cs h=>by simp at h)
   exact up_ok hX l _ vs a b
  ·exact⟨hA,hE⟩
 | .lt _ _::_,A,[],hA,hE=>⟨hA,hE⟩
 | .ot _ _::_,A,[],hA,hE=>⟨hA,hE⟩
 | .sr _ _::_,A,[],hA,hE=>by simp only[up];exact⟨hA,hE⟩
theorem unpack_ok {X:XSt}(hX:XOk X) (its:List It) (s:Tp (It.tys its)):XOk (unpackX X its s)/\Ext X (unpackX X its s):=by
 obtain⟨a,b⟩:=base0_ok hX its
 exact up_ok hX its _ _ a b
end Go.Vs
namespace Go.Vs
variable [Glb]
def CRel (σ:List (Nat×Nat)) (X:XSt) (c c':XC):Prop :=
 c=.un\/(c=c'/\okC X.roots X.next X.stamp c)\/(∃v,(∀R,cC R c=.lf v)/\∀R,cC R c'=.lf v)\/∃id r',c=.rw id/\c'=.rw r'/\X.next<=id/\get σ r'=some id
def RInv (σ:List (Nat×Nat)) (X X' A:XSt):Prop:=∀r st x,lk A.roots r=some (st,x) ->
 (r<X.next/\get σ r=some r/\((st<X.stamp/\lk X'.roots r=some (st,x))\/(X.stamp<=st/\((∃(ty:Ty) (xs:List ty.den) (st':Nat),x=.tr ty xs/\lk X'.roots r=some (st',.tr ty xs))\/∃cs cs' st',x=.bx cs/\lk X'.roots r=some (st',.bx cs')/\All2 (fun (e e':Nat×XC)=>CRel σ X e.2 e'.2) cs cs')))) \/
 (X.next<=r/\∃(r':Nat) (ty:Ty) (xs:List ty.den) (st':Nat),x=.tr ty xs/\lk X'.roots r'=some (st',.tr ty xs)/\get σ r'=some r)
def EInv (σ:List (Nat×Nat)) (X X' A:XSt):Prop:=∀t st v,lk A.env t=some (st,v) ->
 (lk X'.env t=some (st,v)/\okV X.roots X.next X.stamp v)\/∃st' c c',v=.a (.c c)/\lk X'.env t=some (st',.a (.c c'))/\CRel σ X c c'
section
variable {σ:List (Nat×Nat)} {X X' A:XSt}
theorem tmp_lk {X:XSt}{t:Nat}{v:XV}(h:X.tmp t=v) (hv:v≠.un):∃s,lk X.env t=some (s,v):=by
 simp only[XSt.tmp,XSt.opd]at h
 split at h
 ·rename_i s w hl;subst h;exact⟨s,hl⟩
 ·exact (hv h.symm).elim
theorem sameT_ok (hX:XOk X) (hE:Ext X X'){t:Nat}(h:sameT X X' t=true):∃s v,lk X.env t=some (s,v)/\lk X'.env t=some (s,v):=by
 unfold sameT at h
 split at h
 ·rename_i s v s' v' h1 h2
  have:=Nat.eq_of_beq_eq_true h
  subst this
  have h3:=hE.env t s v' h2 (hX.env t s v h1).1
  rw[h1]at h3
  simp only[Option.some.injEq,Prod.mk.injEq,true_and]at h3
  subst h3
  exact⟨s,v,h1,h2⟩
 ·simp at h
theorem pkL_rel {c:XC}{ty:Ty}{v:Sg}(h:pkL c ty=some v):CRel σ X (leafS v) c:=by
 right;right;left
 unfold pkL at h
 split at h
 ·split at h
  ·rename_i hk
   simp only[kEq,decide_eq_true_eq]at hk
   subst hk
   simp only[Option.some.injEq]at h;subst h
   exact⟨_,fun _=>rfl,fun _=>rfl⟩
  ·simp at h
 ·simp only[Option.some.injEq]at h;subst h;exact⟨_,fun _=>rfl,fun _=>rfl⟩
 ·simp only[Option.some.injEq]at h;subst h;exact⟨_,fun _=>rfl,fun _=>rfl⟩
 ·simp only[Option.some.injEq]at h;subst h;exact⟨_,fun _=>rfl,fun _=>rfl⟩
 ·simp at h
theorem pkO_ok {R:XRs}{c:XC}{v:Sg}{r:Nat}(h:pkO R c=some (v,r)):c=.rw r/\∃(t:Ty) (xs:List t.den) (st:Nat),v=⟨.L t,xs⟩/\lk R r=some (st,.tr t xs):=by
 unfold pkO at h
 split at h
 ·split at h
  ·rename_i st t xs hl
   simp only[Option.some.injEq,Prod.mk.injEq]at h
   obtain⟨rfl,rfl⟩:=h
   exact⟨rfl,t,xs,st,rfl,hl⟩
  ·simp at h
 ·simp at h
theorem rinv_put (h:RInv σ X X' A){d:Option Nat}{v:XV}:RInv σ X X' (A.put d v):=by
 cases d<;>exact h
theorem einv_put (h:EInv σ X X' A){t:Nat}{c c':XC}{st':Nat}(hl:lk X'.env t=some (st',.a (.c c'))) (hc:CRel σ X c c'):EInv σ X X' (A.put (some t) (.a (.c c))):=by
 intro q st v hv
 simp only[XSt.put]at hv
 rw[lk_cons]at hv
 split at hv
 ·rename_i e
  simp only at e
  subst e
  simp only[Option.some.injEq,Prod.mk.injEq]at hv
  obtain⟨_,rfl⟩:=hv
  exact .inr ⟨st',c,c',rfl,hl,hc⟩
 ·exact h q st v hv
theorem rinv_new (h:RInv σ X X' A) (hn:X.next<=A.next){r' st':Nat}{t:Ty}{xs:List t.den}(hl:lk X'.roots r'=some (st',.tr t xs)) (hs:get σ r'=some A.next):RInv σ X X' (A.newR (.tr t xs)):=by
 intro q st v hv
 simp only[XSt.newR]at hv
 rw[lk_cons]at hv
 split at hv
 ·rename_i e
  simp only at e
  subst e
  simp only[Option.some.injEq,Prod.mk.injEq]at hv
  obtain⟨_,rfl⟩:=hv
  exact .inr ⟨hn,r',t,xs,st',rfl,hl,hs⟩
 ·exact h q st v hv
theorem rinv_set (h:RInv σ X X' A){r:Nat}{x:XR}(hr:r<X.next) (hg:get σ r=some r) (hst:X.stamp<=A.stamp) (hx:(∃(ty:Ty) (xs:List ty.den) (st':Nat),x=.tr ty xs/\lk X'.roots r=some (st',.tr ty xs))\/∃cs cs' st',x=.bx cs/\lk X'.roots r=some (st',.bx cs')/\All2 (fun (e e':Nat×XC)=>CRel σ X e.2 e'.2) cs cs'):RInv σ X X' (A.setR r x):=by
 intro q st v hv
 simp only[XSt.setR]at hv
 rw[lk_cons]at hv
 split at hv
 ·rename_i e
  simp only at e
  subst e
  simp only[Option.some.injEq,Prod.mk.injEq]at hv
  obtain⟨rfl,rfl⟩:=hv
  exact .inl ⟨hr,hg,.inr ⟨hst,hx⟩⟩
 ·exact h q st v hv
theorem upB_rel (hX:XOk X) (hE:Ext X X'):∀(bs:List Bc) (es es':List (Nat×XC)) (A:XSt) (n:Nat) (vs:List Sg) (s:List (Nat×Nat)) (m:Nat) (rest:List Sg),pkB X'.roots bs es es' n=some (vs,s,m)->A.next=n->X.next<=n->X.stamp<=A.stamp->(∀p∈s,get σ p.1=some p.2) ->
  (∀e∈es,e.1<X.stamp/\okC X.roots X.next X.stamp e.2)->(∀(c:Nat) (e':Nat×XC),es'[c]? = some e'->e'.1<X.stamp->es[c]? = some e')->RInv σ X X' A ->
  ∃us B,upB bs es A (vs++rest)=(us,B,rest)/\RInv σ X X' B/\B.env=A.env/\B.next=m/\n<=m/\X.stamp<=B.stamp/\s.map (·.2)=List.range' n (m-n)/\All2 (fun z (e':Nat×XC)=>CRel σ X (match z with|.inl e=>e.2|.inr x=>x) e'.2) us es'
 | [],[],[],A,n,vs,s,m,rest,h,hn,hx,hst,_,_,_,hR=>by
  simp only[pkB,Option.some.injEq,Prod.mk.injEq]at h
  obtain⟨rfl,rfl,rfl⟩:=h
  exact⟨[],A,rfl,hR,rfl,hn,Nat.le_refl _,hst,by simp,trivial⟩
 | .K::bs,e::es,e'::es',A,n,vs,s,m,rest,h,hn,hx,hst,hs,ho,hold,hR=>by
  simp only[pkB]at h
  split at h
  ·rename_i hb
   have hb:=Nat.eq_of_beq_eq_true hb
   obtain⟨us,B,h1,h2,h3,h4,h5,h6,h7,h8⟩:=upB_rel hX hE bs es es' A n vs s m rest h hn hx hst hs (fun e he=>ho e (List.mem_cons_of_mem _ he)) (fun c e' he hlt=>by simpa using hold (c+1) e' (by simpa using he) hlt) hR
   have h0:=hold 0 e' rfl (by rw[<-hb];exact (ho e List.mem_cons_self).1)
   simp only[List.getElem?_cons_zero,Option.some.injEq]at h0
   refine⟨.inl e::us,B,by simp only[upB,h1],h2,h3,h4,h5,h6,h7,.inr (.inl ⟨by rw[h0],(ho e List.mem_cons_self).2⟩),h8⟩
  ·simp at h
 | .U::bs,e::es,e'::es',A,n,vs,s,m,rest,h,hn,hx,hst,hs,ho,hold,hR=>by
  simp only[pkB]at h
  obtain⟨us,B,h1,h2,h3,h4,h5,h6,h7,h8⟩:=upB_rel hX hE bs es es' A n vs s m rest h hn hx hst hs (fun e he=>ho e (List.mem_cons_of_mem _ he)) (fun c e' he hlt=>by simpa using hold (c+1) e' (by simpa using he) hlt) hR
  exact⟨.inr .un::us,B,by simp only[upB,h1],h2,h3,h4,h5,h6,h7,.inl rfl,h8⟩
 | .L ty::bs,e::es,e'::es',A,n,vs,s,m,rest,h,hn,hx,hst,hs,ho,hold,hR=>by
  simp only[pkB]at h
  split at h
  ·rename_i v vs0 s0 m0 hv hp
   simp only[Option.some.injEq,Prod.mk.injEq]at h
   obtain⟨rfl,rfl,rfl⟩:=h
   obtain⟨us,B,h1,h2,h3,h4,h5,h6,h7,h8⟩:=upB_rel hX hE bs es es' A n vs0 s0 m0 rest hp hn hx hst hs (fun e he=>ho e (List.mem_cons_of_mem _ he)) (fun c e' he hlt=>by simpa using hold (c+1) e' (by simpa using he) hlt) hR
   exact⟨.inr (leafS v)::us,B,by simp only[List.cons_append,upB,h1],h2,h3,h4,h5,h6,h7,pkL_rel hv,h8⟩
  ·simp at h
 | .O ty::bs,e::es,e'::es',A,n,vs,s,m,rest,h,hn,hx,hst,hs,ho,hold,hR=>by
  simp only[pkB]at h
  split at h
  ·rename_i v r0 vs0 s0 m0 hv hp
   simp only[Option.some.injEq,Prod.mk.injEq]at h
   obtain⟨rfl,rfl,rfl⟩:=h
   obtain⟨hc,t,xs,st,rfl,hl⟩:=pkO_ok hv
   have hg:=hs (r0,n) List.mem_cons_self
   simp only at hg
   have hR':=rinv_new hR (by omega) hl (by rw[hn];exact hg)
   obtain⟨us,B,h1,h2,h3,h4,h5,h6,h7,h8⟩:=upB_rel hX hE bs es es' (A.newR (.tr t xs)) (n+1) vs0 s0 m0 rest hp (by show A.next+1=_;rw[hn]) (by omega) (by show X.stamp<=A.stamp+1;omega) (fun p hp=>hs p (List.mem_cons_of_mem _ hp)) (fun e he=>ho e (List.mem_cons_of_mem _ he)) (fun c e' he hlt=>by simpa using hold (c+1) e' (by simpa using he) hlt) hR'
   refine⟨.inr (.rw A.next)::us,B,by simp only[List.cons_append,upB,h1],h2,h3,h4,by omega,h6, ?_,.inr (.inr (.inr ⟨_,_,rfl,hc,by omega,by rw[hn];exact hg⟩)),h8⟩
   simp only[List.map_cons,h7]
   rw[show m0-n=(m0-(n+1))+1 by omega,List.range'_succ]
  ·simp at h
 | [],_::_,_,_,_,_,_,_,_,h,_,_,_,_,_,_,_=>by simp [pkB]at h
 | [],[],_::_,_,_,_,_,_,_,h,_,_,_,_,_,_,_=>by simp [pkB]at h
 | .K::_,[],_,_,_,_,_,_,_,h,_,_,_,_,_,_,_=>by simp [pkB]at h
 | .U::_,[],_,_,_,_,_,_,_,h,_,_,_,_,_,_,_=>by simp [pkB]at h
 | .L _::_,[],_,_,_,_,_,_,_,h,_,_,_,_,_,_,_=>by simp [pkB]at h
 | .O _::_,[],_,_,_,_,_,_,_,h,_,_,_,_,_,_,_=>by simp [pkB]at h
 | .K::_,_::_,[],_,_,_,_,_,_,h,_,_,_,_,_,_,_=>by simp [pkB]at h
 | .U::_,_::_,[],_,_,_,_,_,_,h,_,_,_,_,_,_,_=>by simp [pkB]at h
 | .L _::_,_::_,[],_,_,_,_,_,_,h,_,_,_,_,_,_,_=>by simp [pkB]at h
 | .O _::_,_::_,[],_,_,_,_,_,_,h,_,_,_,_,_,_,_=>by simp [pkB]at h
theorem stampB_rel {σ:List (Nat×Nat)}{X:XSt}{s:Nat}:∀{us:List ((Nat×XC) ⊕ XC)}{es':List (Nat×XC)},All2 (fun z (e':Nat×XC)=>CRel σ X (match z with|.inl e=>e.2|.inr x=>x) e'.2) us es'->All2 (fun (e e':Nat×XC)=>CRel σ X e.2 e'.2) (stampB s us) es'
 | [],[],_=>trivial
 | .inl e::us,e'::es',h=>⟨h.1,stampB_rel h.2⟩
 | .inr x::us,e'::es',h=>⟨h.1,stampB_rel h.2⟩
 | [],_::_,h=>h.elim
 | .inl _::_,[],h=>h.elim
 | .inr _::_,[],h=>h.elim
theorem up_rel (hX:XOk X) (hE:Ext X X'):∀(its:List It) (A:XSt) (n:Nat) (vs:List Sg) (s:List (Nat×Nat)) (m:Nat),pk X X' its n=some (vs,s,m)->A.next=n->X.next<=n->X.stamp<=A.stamp->(∀p∈s,get σ p.1=some p.2)->(∀r∈chgR X its,get σ r=some r) ->
  RInv σ X X' A->EInv σ X X' A->RInv σ X X' (up X its A vs)/\EInv σ X X' (up X its A vs)/\(up X its A vs).next=m/\n<=m/\s.map (·.2)=List.range' n (m-n)
 | [],A,n,vs,s,m,h,hn,hx,hst,hs,hc,hR,hEn=>by
  simp only[pk,Option.some.injEq,Prod.mk.injEq]at h
  obtain⟨rfl,rfl,rfl⟩:=h
  exact⟨hR,hEn,hn,Nat.le_refl _,by simp⟩
 | .kt t::l,A,n,vs,s,m,h,hn,hx,hst,hs,hc,hR,hEn=>by
  simp only[pk]at h
  split at h
  ·simp only[up];exact up_rel hX hE l A n vs s m h hn hx hst hs hc hR hEn
  ·simp at h
 | .lt t ty::l,A,n,vs,s,m,h,hn,hx,hst,hs,hc,hR,hEn=>by
  simp only[pk]at h
  split at h
  ·rename_i c ht
   split at h
   ·rename_i v vs0 s0 m0 hv hp
    simp only[Option.some.injEq,Prod.mk.injEq]at h
    obtain⟨rfl,rfl,rfl⟩:=h
    obtain⟨st',hl⟩:=tmp_lk ht (by simp)
    simp only[up]
    exact up_rel hX hE l _ n vs0 s0 m0 hp hn hx (by show X.stamp<=A.stamp+1;omega) hs hc (rinv_put hR) (einv_put hEn hl (pkL_rel hv))
   ·simp at h
  ·simp at h
 | .ot t ty::l,A,n,vs,s,m,h,hn,hx,hst,hs,hc,hR,hEn=>by
  simp only[pk]at h
  split at h
  ·rename_i c ht
   split at h
   ·rename_i v r0 vs0 s0 m0 hv hp
    simp only[Option.some.injEq,Prod.mk.injEq]at h
    obtain⟨rfl,rfl,rfl⟩:=h
    obtain⟨st',hl⟩:=tmp_lk ht (by simp)
    obtain⟨rfl,t',xs,st,rfl,hl2⟩:=pkO_ok hv
    have hg:=hs (r0,n) List.mem_cons_self
    simp only at hg
    have hR':=rinv_new hR (by omega) hl2 (by rw[hn];exact hg)
    simp only[up]
    obtain⟨a,b,c,d,e⟩:=up_rel hX hE l ((A.newR (.tr t' xs)).put (some t) (.a (.c (.rw A.next)))) (n+1) vs0 s0 m0 hp (by show A.next+1=_;rw[hn]) (by omega) (by show X.stamp<=A.stamp+1+1;omega) (fun p hp=>hs p (List.mem_cons_of_mem _ hp)) hc (rinv_put hR') (einv_put (A:=A.newR (.tr t' xs)) hEn hl (.inr (.inr (.inr ⟨_,_,rfl,rfl,by omega,by rw[hn];exact hg⟩))))
    refine⟨a,b,c,by omega, ?_⟩
    simp only[List.map_cons,e]
    rw[show m0-n=(m0-(n+1))+1 by omega,List.range'_succ]
   ·simp at h
  ·simp at h
 | .bx t cs::l,A,n,vs,s,m,h,hn,hx,hst,hs,hc,hR,hEn=>by
  simp only[pk]at h
  split at h
  ·rename_i r es r' es' hsame hb hb'
   split at h
   ·rename_i vs0 s0 m0 hrr hp
    have hrr:=Nat.eq_of_beq_eq_true hrr
    subst hrr
    split at h
    ·rename_i vs2 s2 m2 hp2
     simp only[Option.some.injEq,Prod.mk.injEq]at h
     obtain⟨rfl,rfl,rfl⟩:=h
     obtain⟨st,hl⟩:=boxOf_lk hb
     obtain⟨st',hl'⟩:=boxOf_lk hb'
     have hcr:chgR X (.bx t cs::l)=r::chgR X l:=by simp only[chgR,hb]
     rw[hcr]at hc
     obtain⟨us,B,h1,h2,h3,h4,h5,h6,h7,h8⟩:=upB_rel (σ:=σ) hX hE cs es es' A n vs0 s0 m0 vs2 hp hn hx hst (fun p hp=>hs p (List.mem_append_left _ hp)) (fun e he=>hX.box r st es hl e he) (fun c e' he hlt=>by
      obtain⟨q1,q2,q3,q4⟩:=hE.cells r st' es' hl' c e' he hlt
      rw[hl]at q3
      simp only[Option.some.injEq,Prod.mk.injEq,XR.bx.injEq]at q3
      rw[q3.2];exact q4) hR
     have hup:up X (.bx t cs::l) A (vs0++vs2)=up X l (B.setR r (.bx (stampB B.stamp us))) vs2:=by simp only[up,hb,h1]
     rw[hup]
     have hE2:EInv σ X X' (B.setR r (.bx (stampB B.stamp us))):=by
      intro q st v hv
      have:lk B.env q=some (st,v):=hv
      rw[h3]at this
      exact hEn q st v this
     obtain⟨a,b,c,d,e⟩:=up_rel hX hE l (B.setR r (.bx (stampB B.stamp us))) m0 vs2 s2 m2 hp2 h4 (by omega) (by show X.stamp<=B.stamp+1;omega) (fun p hp=>hs p (List.mem_append_right _ hp)) (fun q hq=>hc q (List.mem_cons_of_mem _ hq))
      (rinv_set h2 (hX.ids r st _ hl).1 (hc r List.mem_cons_self) h6 (.inr ⟨_,es',st',rfl,hl',stampB_rel h8⟩)) hE2
     refine⟨a,b,c,by omega, ?_⟩
     rw[List.map_append,h7,e,show m2-n=(m0-n)+(m2-m0) by omega]
     have:m0=n+(m0-n):=by omega
     rw[show List.range' m0 (m2-m0)=List.range' (n+1*(m0-n)) (m2-m0) by rw[Nat.one_mul,<-this]]
     rw[List.range'_append]
    ·simp at h
   ·simp at h
  ·simp at h
 | .sr t ty::l,A,n,vs,s,m,h,hn,hx,hst,hs,hc,hR,hEn=>by
  simp only[pk]at h
  split at h
  ·rename_i r hsame ht
   split at h
   ·rename_i st' t' xs hl
    split at h
    ·rename_i vs0 s0 m0 hp
     simp only[Option.some.injEq,Prod.mk.injEq]at h
     obtain⟨rfl,rfl,rfl⟩:=h
     have hcr:chgR X (.sr t ty::l)=r::chgR X l:=by simp only[chgR,ht]
     rw[hcr]at hc
     have hup:up X (.sr t ty::l) A (⟨.L t',xs⟩::vs0)=up X l (A.setR r (.tr t' xs)) vs0:=by simp only[up,ht]
     rw[hup]
     exact up_rel hX hE l (A.setR r (.tr t' xs)) n vs0 s0 m0 hp hn hx (by show X.stamp<=A.stamp+1;omega) hs (fun q hq=>hc q (List.mem_cons_of_mem _ hq)) (rinv_set hR (treeOf_lt hX ht) (hc r List.mem_cons_self) hst (.inl ⟨_,_,_,rfl,hl⟩)) hEn
    ·simp at h
   ·simp at h
  ·simp at h
theorem keep_c (hr:RInv σ X X' A){R0:XRs}{c:XC}(hc:okC R0 X.next X.stamp c):cC A.roots c=.un\/cC A.roots c=renC σ (cC X'.roots c):=by
 have root:∀{r:Nat},r<X.next->∀{st:Nat} {x:XR},lk A.roots r=some (st,x)->get σ r=some r/\((st<X.stamp/\lk X'.roots r=some (st,x))\/(X.stamp<=st/\((∃(ty:Ty) (xs:List ty.den) (st':Nat),x=.tr ty xs/\lk X'.roots r=some (st',.tr ty xs))\/∃cs cs' st',x=.bx cs/\lk X'.roots r=some (st',.bx cs')/\All2 (fun (e e':Nat×XC)=>CRel σ X e.2 e'.2) cs cs'))):=by
  intro r hlt st x hl
  rcases hr r st x hl with ⟨_,a,b⟩|⟨a,_⟩
  ·exact⟨a,b⟩
  ·omega
 cases c with
 | un=>exact .inl rfl
 | nl sz=>exact .inr rfl
 | lf v=>exact .inr rfl
 | i k z=>exact .inr rfl
 | y b=>exact .inr rfl
 | b x=>exact .inr rfl
 | s l=>exact .inr rfl
 | rw r =>
  cases hl:lk A.roots r with
  | none=>left;simp only[cC,hl]
  | some e =>
   obtain⟨st,x⟩:=e
   obtain⟨g,h|⟨_,h|h⟩⟩:=root hc hl
   ·cases x with
    | tr t xs=>right;simp only[cC,hl,h.2,renC,g]
    | im t xs=>right;simp only[cC,hl,h.2,renC,g]
    | _=>left;simp only[cC,hl]
   ·obtain⟨ty,xs,st',rfl,h⟩:=h
    right;simp only[cC,hl,h,renC,g]
   ·obtain⟨cs,cs',st',rfl,h,_⟩:=h
    left;simp only[cC,hl]
 | rv r lo n =>
  cases hl:lk A.roots r with
  | none=>left;simp only[cC,hl]
  | some e =>
   obtain⟨st,x⟩:=e
   obtain⟨g,h|⟨_,h|h⟩⟩:=root hc hl
   ·cases x with
    | tr t xs=>right;simp only[cC,hl,h.2,renC,g]
    | im t xs=>right;simp only[cC,hl,h.2,renC,g]
    | _=>left;simp only[cC,hl]
   ·obtain⟨ty,xs,st',rfl,h⟩:=h
    right;simp only[cC,hl,h,renC,g]
   ·obtain⟨cs,cs',st',rfl,h,_⟩:=h
    left;simp only[cC,hl]
 | rf r v p lo t ws =>
  cases hv:verOk A.roots r v with
  | false=>left;simp only[cC,hv]
  | true =>
   obtain⟨x,hl⟩:=verOk_lk hv
   obtain⟨g,h|⟨h,_⟩⟩:=root hc.1 hl
   ·right;simp only[cC,hv,verOk_of h.2,renC,g]
   ·have:=hc.2.1;omega
 | pe r v p i c t y =>
  cases hv:verOk A.roots r v with
  | false=>left;simp only[cC,hv]
  | true =>
   obtain⟨x,hl⟩:=verOk_lk hv
   obtain⟨g,h|⟨h,_⟩⟩:=root hc.1 hl
   ·right;simp only[cC,hv,verOk_of h.2,renC,g]
   ·have:=hc.2.1;omega
 | pb r c =>
  cases hl:lk A.roots r with
  | none=>left;simp only[cC,hl]
  | some e =>
   obtain⟨st,x⟩:=e
   obtain⟨g,h|⟨_,h|h⟩⟩:=root hc hl
   ·cases x with
    | bx cs=>right;simp only[cC,hl,h.2,renC,g]
    | _=>left;simp only[cC,hl]
   ·obtain⟨ty,xs,st',rfl,h⟩:=h
    left;simp only[cC,hl]
   ·obtain⟨cs,cs',st',rfl,h,_⟩:=h
    right;simp only[cC,hl,h,renC,g]
theorem rel_c (hn:(σ.map (·.2)).Nodup) (hr:RInv σ X X' A){c c':XC}(hc:CRel σ X c c'){y:C}(hy:WkC y (cC X'.roots c')):WkC (renC σ y) (cC A.roots c):=by
 rcases hc with rfl|⟨rfl,ho⟩|⟨v,h1,h2⟩|⟨id,r',rfl,rfl,hid,hg⟩
 ·exact .inr rfl
 ·exact wkC_map (κ:=renC σ) rfl hy (keep_c hr ho)
 ·rw[h2]at hy
  rw[h1,hy.eq (by simp)]
  exact .inl rfl
 ·cases hl:lk A.roots id with
  | none=>right;simp only[cC,hl]
  | some e =>
   obtain⟨st,x⟩:=e
   rcases hr id st x hl with ⟨a,_⟩|⟨_,r2,ty,xs,st',rfl,h1,h2⟩
   ·omega
   ·have:r2=r':=by rw[<-invN_get hn h2,<-invN_get hn hg]
    subst this
    simp only[cC,h1]at hy
    rw[hy.eq (by simp)]
    left
    simp only[cC,hl,renC,hg]
theorem rel_cs (hn:(σ.map (·.2)).Nodup) (hr:RInv σ X X' A):∀{es es':List (Nat×XC)}{ys:List C},All2 (fun (e e':Nat×XC)=>CRel σ X e.2 e'.2) es es'->All2 WkC ys (es'.map fun e=>cC X'.roots e.2)->All2 WkC (ys.map (renC σ)) (es.map fun e=>cC A.roots e.2)
 | [],[],[],_,_=>trivial
 | e::es,e'::es',y::ys,h,w=>⟨rel_c hn hr h.1 w.1,rel_cs hn hr h.2 w.2⟩
 | [],_::_,_,h,_=>h.elim
 | _::_,[],_,h,_=>h.elim
 | [],[],_::_,_,w=>w.elim
 | _::_,_::_,[],_,w=>w.elim
theorem le_of_inv {S':St}(hX:XOk X) (hX':XOk X') (hE:Ext X X') (hS:SimX X' S') (hok:okRen σ A.next S'.fix=true) (hf:A.fix=X'.fix) (hR:RInv σ X X' A) (hEn:EInv σ X X' A):Le S' (concS A):=by
 have hn:(σ.map (·.2)).Nodup:=by
  simp only[okRen,Bool.and_eq_true,decide_eq_true_eq]at hok
  exact hok.1.1
 refine Le.ren2 σ (by rw[hS.fix];exact hf) hok ?_ ?_
 ·intro t x hx
  simp only[concS,get_concE]at hx
  cases hl:lk A.env t with
  | none=>rw[hl]at hx;simp at hx
  | some e =>
   obtain⟨st,v⟩:=e
   rw[hl]at hx
   simp only[Option.map_some,Option.some.injEq]at hx
   subst hx
   rcases hEn t st v hl with ⟨h1,h2⟩|⟨st',c,c',rfl,h1,h2⟩
   ·rcases hS.env t st v h1 with rfl|⟨y,g1,g2⟩
    ·exact .inl rfl
    ·exact .inr ⟨y,g1,wkV_map (κ:=renC σ) rfl (fun c hc=>keep_c hR hc) (okV.ext (Nat.le_refl _) (Nat.le_refl _) hE.roots h2) g2⟩
   ·rcases hS.env t st' _ h1 with h|⟨y,g1,g2⟩
    ·simp at h
    ·refine .inr ⟨y,g1, ?_⟩
     cases y with
     | a y=>cases y with
      | c y=>exact rel_c hn hR h2 g2
      | ag _=>exact g2.elim
     | _=>exact g2.elim
 ·intro r x hx
  simp only[concS,get_concR]at hx
  split at hx
  ·rename_i st z hl
   rcases hR r st z hl with ⟨a,b,c⟩|⟨a,r',ty,xs,st',rfl,h1,h2⟩
   ·have same:∀{st':Nat} {z':XR},lk X'.roots r=some (st',z')->(∀y,cRt X'.roots z'=some y->∀y',WkR y' y->WkR (renRoot σ y') x)->(∃y,cRt X'.roots z'=some y)->∃r0 y,get S'.roots r0=some y/\get σ r0=some r/\WkR (renRoot σ y) x:=by
     intro st' z' hl' hw ⟨y,hy⟩
     obtain⟨y',g1,g2⟩:=hS.roots r st' z' hl' y hy
     exact⟨r,y',g1,b,hw y hy y' g2⟩
    rcases c with ⟨c1,c2⟩|⟨c1,⟨ty,xs,st',rfl,c2⟩|⟨cs,cs',st',rfl,c2,c3⟩⟩
    ·refine same c2 ?_ ?_
     ·intro y hy y' hw
      cases z with
      | tr t xs =>
       simp only[cRt,Option.some.injEq]at hx hy;subst hx hy
       cases y'<;>first|exact hw|exact hw.elim
      | im t xs =>
       simp only[cRt,Option.some.injEq]at hx hy;subst hx hy
       cases y'<;>first|exact hw|exact hw.elim
      | bx cs =>
       simp only[cRt,Option.some.injEq]at hx hy;subst hx hy
       cases y' with
       | bx ys =>
        have h1:All2 WkC ys ((cs.map (·.2)).map (cC X'.roots)):=by rw[List.map_map];exact hw
        have h2:=wkCs_map (κ:=renC σ) rfl (fun c hc=>keep_c hR hc) (fun c hc=>by
         obtain⟨e,he,rfl⟩:=List.mem_map.1 hc
         exact okC.ext (Nat.le_refl _) (Nat.le_refl _) hE.roots (hX.box r st cs (hE.roots r st _ c2 c1) e he).2) h1
        rw[List.map_map]at h2
        exact h2
       | _=>exact hw.elim
      | gone=>simp [cRt]at hx
     ·cases z with
      | gone=>simp [cRt]at hx
      | _=>exact⟨_,rfl⟩
    ·refine same c2 ?_ ⟨_,rfl⟩
     intro y hy y' hw
     simp only[cRt,Option.some.injEq]at hx hy;subst hx hy
     cases y'<;>first|exact hw|exact hw.elim
    ·refine same c2 ?_ ⟨_,rfl⟩
     intro y hy y' hw
     simp only[cRt,Option.some.injEq]at hx hy;subst hx hy
     cases y' with
     | bx ys=>exact rel_cs hn hR c3 hw
     | _=>exact hw.elim
   ·obtain⟨y',g1,g2⟩:=hS.roots r' st' _ h1 _ rfl
    simp only[cRt,Option.some.injEq]at hx;subst hx
    refine⟨r',y',g1,h2, ?_⟩
    cases y'<;>first|exact g2|exact g2.elim
  ·simp at hx
theorem disj_ok {l:List Nat}:∀{m:List Nat},disjN l m=true->∀r∈m,r ∉ l
 | [],_,r,hr=>by simp at hr
 | q::m,h,r,hr=>by
  simp only[disjN]at h
  split at h
  ·simp at h
  ·rename_i hq
   rcases List.mem_cons.1 hr with rfl|hr
   ·exact fun hm=>by rw[hasN_mem.2 hm]at hq;simp at hq
   ·exact disj_ok h r hr
theorem sameR_ok (hX:XOk X) (hE:Ext X X'):∀{l:List Nat},sameR X X' l=true->∀r∈l,∀e,lk X.roots r=some e->lk X'.roots r=some e
 | [],_,r,hr,_,_=>by simp at hr
 | q::l,h,r,hr,e,he=>by
  simp only[sameR]at h
  split at h
  ·rename_i s x s' x' h1 h2
   simp only[Bool.and_eq_true]at h
   have hs:=Nat.eq_of_beq_eq_true h.1
   subst hs
   rcases List.mem_cons.1 hr with rfl|hr
   ·have h3:=hE.roots r s x' h2 (hX.ids r s x h1).2
    rw[h1]at h3 he
    simp only[Option.some.injEq,Prod.mk.injEq,true_and]at h3 he
    rw[h2,<-h3];exact congrArg some he
   ·exact sameR_ok hX hE h.2 r hr e he
  ·rename_i h1
   rcases List.mem_cons.1 hr with rfl|hr
   ·rw[h1]at he;simp at he
   ·exact sameR_ok hX hE h r hr e he
  ·simp at h
theorem get_pairs:∀{s:List (Nat×Nat)}{σ:List (Nat×Nat)},(s.map (·.1)).Nodup->∀p∈s,get (s++σ) p.1=some p.2
 | [],σ,_,p,hp=>by simp at hp
 | q::s,σ,hn,p,hp=>by
  simp only[List.map_cons,List.nodup_cons]at hn
  simp only[List.cons_append,get]
  rcases List.mem_cons.1 hp with rfl|hp
  ·rw[if_pos rfl]
  ·rw[if_neg (fun e=>hn.1 (by rw[e];exact List.mem_map.2 ⟨p,hp,rfl⟩))]
   exact get_pairs hn.2 p hp
theorem get_diag (n r:Nat) (h:r<n):get ((List.range n).map fun r=>(r,r)) r=some r:=by
 have key:∀l:List Nat,r∈l->get (l.map fun r=>(r,r)) r=some r:=by
  intro l
  induction l with
  | nil=>intro h;simp at h
  | cons a l ih =>
   intro h
   simp only[List.map_cons,get]
   split
   ·rename_i e;rw[e]
   ·rename_i e
    exact ih ((List.mem_cons.1 h).resolve_left fun e'=>e e'.symm)
 exact key _ (List.mem_range.2 h)
theorem get_out {s σ:List (Nat×Nat)}{r:Nat}(h:r ∉ s.map (·.1)):get (s++σ) r=get σ r:=by
 induction s with
 | nil=>rfl
 | cons q s ih =>
  simp only[List.map_cons,List.mem_cons,not_or]at h
  simp only[List.cons_append,get]
  rw[if_neg (fun e=>h.1 e.symm)]
  exact ih h.2
theorem pack_ok {β:Type}{out:β}{S':St}{its:List It}{k:Tp (It.tys its)->Option β}(hX:XOk X) (hX':XOk X') (hE:Ext X X') (hS:SimX X' S') (h:packX X X' its k=some out) :
  ∃s,k s=some out/\Le S' (concS (unpackX X its s)):=by
 unfold packX at h
 split at h
 ·rename_i vs s m hsame hp
  split at h
  ·rename_i hc
   simp only[Bool.and_eq_true]at hc
   obtain⟨hnd,hd1,hd2⟩:=hc
   have hnd:=nodupN_ok hnd
   obtain⟨x,hk,hsp⟩:=coll_some _ _ _ h
   refine⟨x,hk, ?_⟩
   have hps:∀p∈s,get (s++(List.range X.next).map fun r=>(r,r)) p.1=some p.2:=get_pairs hnd
   have hdiag:∀r,r<X.next->r ∉ s.map (·.1)->get (s++(List.range X.next).map fun r=>(r,r)) r=some r:=fun r h1 h2=>by rw[get_out h2,get_diag _ _ h1]
   have hchg:∀r∈chgR X its,r<X.next:=by
    intro r hr
    have key:∀l:List It,r∈chgR X l->r<X.next:=by
     intro l
     induction l with
     | nil=>intro h;simp [chgR]at h
     | cons i l ih =>
      intro h
      cases i with
      | bx t cs =>
       simp only[chgR]at h
       split at h
       ·rename_i q es hb
        rcases List.mem_cons.1 h with rfl|h
        ·obtain⟨st,hl⟩:=boxOf_lk hb;exact (hX.ids _ _ _ hl).1
        ·exact ih h
       ·exact ih h
      | sr t ty =>
       simp only[chgR]at h
       split at h
       ·rename_i q hb
        rcases List.mem_cons.1 h with rfl|h
        ·exact treeOf_lt hX hb
        ·exact ih h
       ·exact ih h
      | _=>exact ih h
    exact key its hr
   obtain⟨hb0,hb1⟩:=base0_ok hX its
   have R0:RInv (s++(List.range X.next).map fun r=>(r,r)) X X' (base0 X its):=by
    intro r st z hl
    obtain⟨h1,h2⟩:=keptRs_lk hl
    have h3:=hX.ids r st z h1
    exact .inl ⟨h3.1,hdiag r h3.1 (disj_ok hd1 r h2),.inl ⟨h3.2,sameR_ok hX hE hsame r h2 _ h1⟩⟩
   have E0:EInv (s++(List.range X.next).map fun r=>(r,r)) X X' (base0 X its):=by
    intro t st v hl
    have h1:=keptE_lk hl
    have ht:t∈keptT its:=by
     have key:∀(l:List Nat),(∃e,lk (keptE X l) t=some e)->t∈l:=by
      intro l
      induction l with
      | nil=>rintro ⟨e,he⟩;simp [keptE,lk]at he
      | cons q l ih =>
       rintro ⟨e,he⟩
       simp only[keptE]at he
       split at he
       ·rw[lk_cons]at he
        split at he
        ·rename_i e;exact List.mem_cons.2 (.inl e.symm)
        ·exact List.mem_cons_of_mem _ (ih ⟨e,he⟩)
       ·exact List.mem_cons_of_mem _ (ih ⟨e,he⟩)
     exact key _ ⟨_,hl⟩
    have hsameT:sameT X X' t=true:=by
     have key:∀(l:List It) (n:Nat) (r:List Sg×List (Nat×Nat)×Nat),pk X X' l n=some r->t∈keptT l->sameT X X' t=true:=by
      intro l
      induction l with
      | nil=>intro n r _ h;simp [keptT]at h
      | cons i l ih =>
       intro n r hr h
       cases i with
       | kt q =>
        simp only[pk]at hr
        split at hr
        ·rename_i hq
         rcases List.mem_cons.1 h with rfl|h
         ·exact hq
         ·exact ih _ _ hr h
        ·simp at hr
       | lt q ty =>
        simp only[pk]at hr
        split at hr
        ·split at hr
         ·rename_i h1 h2;exact ih _ _ h2 h
         ·simp at hr
        ·simp at hr
       | ot q ty =>
        simp only[pk]at hr
        split at hr
        ·split at hr
         ·rename_i h1 h2;exact ih _ _ h2 h
         ·simp at hr
        ·simp at hr
       | bx q cs =>
        simp only[pk]at hr
        split at hr
        ·rename_i hq hb1 hb2
         split at hr
         ·split at hr
          ·rename_i h3
           rcases List.mem_cons.1 h with rfl|h
           ·exact hq
           ·exact ih _ _ h3 h
          ·simp at hr
         ·simp at hr
        ·simp at hr
       | sr q ty =>
        simp only[pk]at hr
        split at hr
        ·rename_i hq hb1
         split at hr
         ·split at hr
          ·rename_i h3
           rcases List.mem_cons.1 h with rfl|h
           ·exact hq
           ·exact ih _ _ h3 h
          ·simp at hr
         ·simp at hr
        ·simp at hr
     exact key its _ _ hp ht
    obtain⟨s',v',g1,g2⟩:=sameT_ok hX hE hsameT
    rw[h1]at g1
    simp only[Option.some.injEq,Prod.mk.injEq]at g1
    obtain⟨rfl,rfl⟩:=g1
    exact .inl ⟨g2,(hX.env _ _ _ h1).2⟩
   obtain⟨hR,hEn,hnx,hle,hrng⟩:=up_rel hX hE its (base0 X its) X.next vs s m hp rfl (Nat.le_refl _) (Nat.le_refl _) hps (fun r hr=>hdiag r (hchg r hr) (disj_ok hd2 r hr)) R0 E0
   obtain⟨hU1,hU2⟩:=unpack_ok hX its x
   have hun:unpackX X its x=up X its (base0 X its) vs:=by simp only[unpackX,hsp]
   rw[hun]at hU2 ⊢
   refine le_of_inv hX hX' hE hS ?_ (by rw[hU2.fix,hE.fix]) hR hEn
   simp only[okRen,Bool.and_eq_true,decide_eq_true_eq,List.all_eq_true,Bool.or_eq_true,beq_iff_eq]
   refine⟨⟨?_, ?_⟩, ?_⟩
   ·rw[List.map_append,hrng,List.map_map]
    rw[List.nodup_append]
    refine⟨List.nodup_range', ?_, ?_⟩
    ·have:(List.range X.next).map ((fun x:Nat×Nat=>x.2) ∘ fun r=>(r,r))=List.range X.next:=by simp [Function.comp_def]
     rw[this];exact List.nodup_range
    ·intro a ha b hb e
     subst e
     have h1:=(List.mem_range'_1.1 ha).1
     simp only[List.mem_map,Function.comp_def,List.mem_range]at hb
     obtain⟨q,hq,rfl⟩:=hb
     omega
   ·intro p hp'
    rcases List.mem_append.1 hp' with h1|h1
    ·have:p.2∈s.map (·.2):=List.mem_map.2 ⟨p,h1,rfl⟩
     rw[hrng,List.mem_range'_1]at this
     have hfx:=hX.fixle
     have hf2:S'.fix=X.fix:=by rw[hS.fix,hE.fix]
     exact⟨by rw[hnx];omega,.inl (by rw[hf2];omega)⟩
    ·obtain⟨q,hq,rfl⟩:=List.mem_map.1 h1
     rw[List.mem_range]at hq
     exact⟨by rw[hnx];simp only;omega,.inr rfl⟩
   ·have hf2:S'.fix=X.fix:=by rw[hS.fix,hE.fix]
    rw[hf2,hnx]
    exact Nat.le_trans hX.fixle hle
  ·simp at h
 ·simp at h
end
end Go.Vs
namespace Go.Vs
variable [Glb]
theorem le_nl_env {E:List (Nat×V)}{R:List (Nat×Root)}{n f sz:Nat}(t:Nat) (ht:get E t=some (.a (.c (.nl sz)))):Le ⟨E,R,n,f⟩ ⟨put E t (.a (.c (.rf n [] sz 0 0))),(n,.tr sz [])::R,n+1,f⟩:=by
 refine⟨rfl, ?_⟩
 intro N w0 own0 pl0 g pl a w hR
 have h4:=hR.env t _ ht
 obtain⟨b1,b2,b3,b4⟩:=rel_nil sz hR
 refine⟨_,_,⟨b1,b2,b3, ?_⟩⟩
 intro u x hx
 rw[get_put]at hx
 split at hx
 ·rename_i e
  subst e
  simp only[Option.some.injEq]at hx
  subst hx
  exact cr_nil h4
 ·exact b4 u x hx
theorem le_nl_box {E:List (Nat×V)}{R:List (Nat×Root)}{n f sz:Nat}{cs:List C}(r c:Nat) (hr:get R r=some (.bx cs)) (hc:cs[c]? = some (.nl sz)):Le ⟨E,R,n,f⟩ ⟨E,(n,.tr sz [])::put R r (.bx (cs.set c (.rf n [] sz 0 0))),n+1,f⟩:=by
 refine⟨rfl, ?_⟩
 intro N w0 own0 pl0 g pl a w hR
 have hlt:=(hR.hp.roots r _ hr).1
 have hold:=(hR.hp.roots r _ hr).2
 obtain⟨b1,b2,b3,b4⟩:=rel_nil sz hR
 obtain⟨c1,c2,c3,c4,c5,c6⟩:=b1
 refine⟨_,_,⟨⟨c1,c2,c3,c4,c5, ?_⟩,b2,b3,b4⟩⟩
 intro u x hx
 simp only[get]at hx
 split at hx
 ·rename_i e
  exact c6 u x (by simp only[get,if_pos e];exact hx)
 ·rename_i e
  rw[get_put]at hx
  split at hx
  ·rename_i e2
   subst e2
   simp only[Option.some.injEq]at hx
   subst hx
   have hb:=c6 r (.bx cs) (by simp only[get,if_neg e];exact hr)
   refine⟨hb.1, ?_⟩
   intro k y hy
   rw[List.getElem?_set]at hy
   split at hy
   ·rename_i e3
    subst e3
    split at hy
    ·simp only[Option.some.injEq]at hy
     subst hy
     obtain⟨v,d1,d2,d3,d4⟩:=hb.2 c _ hc
     obtain⟨v',e1,e2,_,_⟩:=hold c _ hc
     have hp:plNew pl n (fun _=>⟨true,0,0,0,sz,none⟩) r []=pl r []:=plNew_agree pl n _ r [] hlt
     rw[hp]at d1 d3 d4 ⊢
     exact⟨v,d1,cr_nil d2,d3,d4⟩
    ·simp at hy
   ·exact hb.2 k y hy
  ·exact c6 u x (by simp only[get,if_neg e];exact hx)
theorem Le.refl (S:St):Le S S:=⟨rfl,fun N w0 own0 pl0 g pl a w h=>⟨g,pl,h⟩⟩
theorem Le.trans {S T U:St}(h1:Le S T) (h2:Le T U):Le S U:=⟨h2.1.trans h1.1,fun N w0 own0 pl0 g pl a w h=>by
 obtain⟨g',pl',h'⟩:=h1.2 N w0 own0 pl0 g pl a w h
 exact h2.2 N w0 own0 pl0 g' pl' a w h'⟩
theorem sim_put {X:XSt}{E:List (Nat×V)}{R:List (Nat×Root)}{n f:Nat}(hS:SimX X ⟨E,R,n,f⟩){d:Option Nat}{v:V}{xv:XV}(h:WkV v (cV X.roots xv)):SimX (X.put d xv) ⟨setEnv d v E,R,n,f⟩:=by
 cases d with
 | none=>exact hS
 | some d =>
  refine⟨hS.next,hS.fix, ?_,hS.roots⟩
  intro t s w hl
  simp only[XSt.put]at hl
  rw[lk_cons]at hl
  simp only[setEnv,get_put]
  split at hl
  ·rename_i e
   simp only at e
   simp only[Option.some.injEq,Prod.mk.injEq]at hl
   obtain⟨_,rfl⟩:=hl
   rw[if_pos e]
   exact .inr ⟨v,rfl,h⟩
  ·rename_i e
   rw[if_neg e]
   exact hS.env t s w hl
theorem sim_cell {X:XSt}{E:List (Nat×V)}{R:List (Nat×Root)}{n f r c s:Nat}{cs:List (Nat×XC)}{ys:List C}{x:XC}{y:C}(hX:XOk X) (hS:SimX X ⟨E,R,n,f⟩) (hl:lk X.roots r=some (s,.bx cs)) (hy:get R r=some (.bx ys)) (hw:All2 WkC ys (cs.map fun e=>cC X.roots e.2)) (hx:okC X.roots X.next X.stamp x) (hxy:WkC y (cC X.roots x)) :
  XOk (X.setR r (.bx (cs.set c (X.stamp,x))))/\Ext X (X.setR r (.bx (cs.set c (X.stamp,x))))/\SimX (X.setR r (.bx (cs.set c (X.stamp,x)))) ⟨E,put R r (.bx (ys.set c y)),n,f⟩:=by
 obtain⟨a,b⟩:=chg_ok hX (x:=.bx (cs.set c (X.stamp,x))) (Nat.le_refl _) (hX.ids r s _ hl).1 (by
  intro cs' e j en hj
  simp only[XR.bx.injEq]at e
  subst e
  rw[List.getElem?_set]at hj
  split at hj
  ·split at hj
   ·simp only[Option.some.injEq]at hj;subst hj;exact⟨.inl rfl,hx⟩
   ·simp at hj
  ·exact⟨.inr ⟨s,cs,hl,hj⟩,(hX.box r s cs hl en (List.mem_of_getElem? hj)).2⟩)
 refine⟨a,b, ?_⟩
 have key:∀c',okC X.roots X.next X.stamp c'->cC ((r,X.stamp,.bx (cs.set c (X.stamp,x)))::X.roots) c'=.un\/cC ((r,X.stamp,.bx (cs.set c (X.stamp,x)))::X.roots) c'=killCs [] (cC X.roots c'):=fun c' hc=>cC_cons (.inr (.inr (.inl ⟨_,_,_,rfl,hl⟩))) hc
 have hn:n=X.next:=hS.next
 subst hn
 refine sim_step (X':=X.setR r (.bx (cs.set c (X.stamp,x)))) (ks:=[]) (roots:=put R r (.bx (ys.set c y))) hX hS rfl rfl key ?_
 intro q s' z hq
 simp only[XSt.setR]at hq
 rw[lk_cons]at hq
 split at hq
 ·rename_i e
  simp only at e;subst e
  simp only[Option.some.injEq,Prod.mk.injEq]at hq
  obtain⟨_,rfl⟩:=hq
  right
  intro y' hy'
  simp only[cRt,Option.some.injEq]at hy';subst hy'
  refine⟨_,by rw[get_put,if_pos rfl], ?_⟩
  have w1:All2 WkC (ys.set c y) (((cs.map (·.2)).set c x).map (cC X.roots)):=by
   have w0:All2 WkC ys ((cs.map (·.2)).map (cC X.roots)):=by rw[List.map_map];exact hw
   clear key a b hl hy hw
   generalize cs.map (·.2)=us at w0
   induction us generalizing ys c with
   | nil=>cases ys with
    | nil=>trivial
    | cons _ _=>exact w0.elim
   | cons u us ih=>cases ys with
    | nil=>exact w0.elim
    | cons y0 ys=>cases c with
     | zero=>exact⟨hxy,w0.2⟩
     | succ c=>exact⟨w0.1,ih w0.2⟩
  have w2:=wkCs_kill (ks:=[]) key (by
   intro c' hc'
   rcases List.mem_or_eq_of_mem_set hc' with h|h
   ·obtain⟨e,he,rfl⟩:=List.mem_map.1 h
    exact (hX.box r s cs hl e he).2
   ·rw[h];exact hx) w1
  have e3:(ys.set c y).map (killCs [])=ys.set c y:=by
   have:killCs []=fun c=>c:=by funext c;rfl
   rw[this];simp
  rw[e3]at w2
  simp only[WkR]
  have e4:(cs.map (·.2)).set c x=(cs.set c (X.stamp,x)).map (·.2):=by simp [List.map_set]
  rw[e4,List.map_map]at w2
  exact w2
 ·rename_i e
  left
  exact⟨hq,by rw[omap_nil,get_put,if_neg e]⟩
def nrmB (r:Nat):List Bc->Nat->XSt->XSt
 | [],_,X=>X
 | .O ty::bs,c,X=>match lk X.roots r with
  | some (_,.bx cs)=>match cs[c]? with
   | some (_,.nl n)=>match Nat.beq n ty.n with
    | true=>nrmB r bs (c+1) ((X.newR (.tr ty [])).setR r (.bx (cs.set c (X.stamp+1,.rw X.next))))
    | false=>nrmB r bs (c+1) X
   | _=>nrmB r bs (c+1) X
  | _=>nrmB r bs (c+1) X
 | _::bs,c,X=>nrmB r bs (c+1) X
def nrm:List It->XSt->XSt
 | [],X=>X
 | .ot t ty::l,X=>match X.tmp t with
  | .a (.c (.nl n))=>match Nat.beq n ty.n with
   | true=>nrm l ((X.newR (.tr ty [])).put (some t) (.a (.c (.rw X.next))))
   | false=>nrm l X
  | _=>nrm l X
 | .bx t cs::l,X=>match boxOf X t with
  | some (r,_)=>nrm l (nrmB r cs 0 X)
  | none=>nrm l X
 | _::l,X=>nrm l X
def NrOk (X X':XSt) (S:St):Prop:=XOk X'/\Ext X X'/\∃S',Le S S'/\SimX X' S'
theorem nrmB_ok {r:Nat}:∀(bs:List Bc) (c:Nat){X:XSt}{S:St},XOk X->SimX X S->NrOk X (nrmB r bs c X) S
 | [],c,X,S,hX,hS=>⟨hX,Ext.refl X,S,Le.refl S,hS⟩
 | .K::bs,c,X,S,hX,hS=>nrmB_ok bs _ hX hS
 | .U::bs,c,X,S,hX,hS=>nrmB_ok bs _ hX hS
 | .L _::bs,c,X,S,hX,hS=>nrmB_ok bs _ hX hS
 | .O ty::bs,c,X,S,hX,hS=>by
  simp only[nrmB]
  split
  ·rename_i s cs hl
   split
   ·rename_i sc n hc
    split
    ·rename_i hn
     have hn:=Nat.eq_of_beq_eq_true hn
     subst hn
     obtain⟨E,R,nx,f⟩:=S
     have hnx:nx=X.next:=hS.next
     subst hnx
     obtain⟨ys,g1,g2⟩:=box_sim hS hl
     obtain⟨y,y1,y2⟩:=wk_get (i:=c) (x:=C.nl ty.n) g2 (by rw[List.getElem?_map,hc];rfl)
     have y3:=y2.eq (by simp)
     subst y3
     obtain⟨a,b,d⟩:=newR_ok (x:=.tr ty []) (y:=.tr ty.n []) hX hS (fun cs h=>by simp at h) ⟨_,rfl,rfl,rfl⟩
     have hlt:=(hX.ids r s _ hl).1
     have hl2:lk (X.newR (.tr ty [])).roots r=some (s,.bx cs):=by simp only[XSt.newR];rw[lk_cons,if_neg (by simp only;omega)];exact hl
     obtain⟨ys2,g3,g4⟩:=box_sim d hl2
     have e1:ys2=ys:=by
      simp only[get]at g3
      rw[if_neg (by omega),g1]at g3
      simp only[Option.some.injEq,Root.bx.injEq]at g3
      exact g3.symm
     subst e1
     obtain⟨a',b',d'⟩:=sim_cell (c:=c) (x:=.rw X.next) (y:=.rf X.next [] ty.n 0 0) a d hl2 g3 g4 (Nat.lt_succ_self _) (by
      left
      simp only[cC,newR_lk];rfl)
     have hput:put ((X.next,Root.tr ty.n [])::R) r (.bx (ys2.set c (.rf X.next [] ty.n 0 0)))=(X.next,Root.tr ty.n [])::put R r (.bx (ys2.set c (.rf X.next [] ty.n 0 0))):=by
      simp only[put];rw[if_neg (by omega)]
     rw[hput]at d'
     obtain⟨r1,r2,S',r3,r4⟩:=nrmB_ok bs (c+1) a' d'
     exact⟨r1,(b.trans b').trans r2,S',(le_nl_box r c g1 y1).trans r3,r4⟩
    ·exact nrmB_ok bs _ hX hS
   ·exact nrmB_ok bs _ hX hS
  ·exact nrmB_ok bs _ hX hS
theorem nrm_ok:∀(its:List It){X:XSt}{S:St},XOk X->SimX X S->NrOk X (nrm its X) S
 | [],X,S,hX,hS=>⟨hX,Ext.refl X,S,Le.refl S,hS⟩
 | .kt _::l,X,S,hX,hS=>nrm_ok l hX hS
 | .lt _ _::l,X,S,hX,hS=>nrm_ok l hX hS
 | .sr _ _::l,X,S,hX,hS=>nrm_ok l hX hS
 | .bx t cs::l,X,S,hX,hS=>by
  simp only[nrm]
  split
  ·rename_i r es hb
   obtain⟨a,b,S1,c,d⟩:=nrmB_ok cs 0 hX hS
   obtain⟨a',b',S2,c',d'⟩:=nrm_ok l a d
   exact⟨a',b.trans b',S2,c.trans c',d'⟩
  ·exact nrm_ok l hX hS
 | .ot t ty::l,X,S,hX,hS=>by
  simp only[nrm]
  split
  ·rename_i n ht
   split
   ·rename_i hn
    have hn:=Nat.eq_of_beq_eq_true hn
    subst hn
    obtain⟨E,R,nx,f⟩:=S
    have hnx:nx=X.next:=hS.next
    subst hnx
    obtain⟨s,hl⟩:=tmp_lk ht (by simp)
    rcases hS.env t s _ hl with h|⟨y,y1,y2⟩
    ·simp at h
    ·have y3:=y2.c (by simp [cC])
     subst y3
     obtain⟨a,b,d⟩:=newR_ok (x:=.tr ty []) (y:=.tr ty.n []) hX hS (fun cs h=>by simp at h) ⟨_,rfl,rfl,rfl⟩
     obtain⟨a',b'⟩:=put_ok a (d:=some t) (v:=.a (.c (.rw X.next))) (Nat.lt_succ_self X.next)
     have d':=sim_put d (d:=some t) (v:=.a (.c (.rf X.next [] ty.n 0 0))) (xv:=.a (.c (.rw X.next))) (rw_wk (newR_lk _ _) rfl)
     obtain⟨r1,r2,S',r3,r4⟩:=nrm_ok l a' d'
     exact⟨r1,(b.trans b').trans r2,S',(le_nl_env t y1).trans r3,r4⟩
   ·exact nrm_ok l hX hS
  ·exact nrm_ok l hX hS
def packN {β:Type}(X X':XSt) (its:List It) (k:Tp (It.tys its)->Option β):Option β:=packX X (nrm its X') its k
theorem packN_ok {β:Type}{out:β}{X X':XSt}{S':St}{its:List It}{k:Tp (It.tys its)->Option β}(hX:XOk X) (hX':XOk X') (hE:Ext X X') (hS:SimX X' S') (h:packN X X' its k=some out) :
  ∃s,k s=some out/\Le S' (concS (unpackX X its s)):=by
 obtain⟨a,b,S2,c,d⟩:=nrm_ok its hX' hS
 obtain⟨s,h1,h2⟩:=pack_ok hX a (hE.trans b) d h
 exact⟨s,h1,c.trans h2⟩
def iterX {σ ρ:Type}(step:σ->Option (σ ⊕ ρ)):Nat->σ->Option ρ
 | 0,_=>none
 | n+1,s=>match step s with
  | some (.inl s')=>iterX step n s'
  | some (.inr r)=>some r
  | none=>none
open Classical in
noncomputable def loopX {σ ρ:Type}(step:σ->Option (σ ⊕ ρ)) (s:σ):Option ρ:=if h:∃r n,iterX step n s=some r then some (Classical.choose h) else none
theorem loopX_some {σ ρ:Type}{step:σ->Option (σ ⊕ ρ)}{s:σ}{r:ρ}(h:loopX step s=some r):∃n,iterX step n s=some r:=by
 unfold loopX at h
 split at h
 ·rename_i hx
  simp only[Option.some.injEq]at h
  subst h
  exact Classical.choose_spec hx
 ·simp at h
theorem iterX_more {σ ρ:Type}{step:σ->Option (σ ⊕ ρ)}{r:ρ}:∀{n:Nat}{s:σ},iterX step n s=some r->∀m,n<=m->iterX step m s=some r
 | 0,s,h,m,_=>by simp [iterX]at h
 | n+1,s,h,m,hm=>by
  obtain⟨m,rfl⟩:∃k,m=k+1:=⟨m-1,by omega⟩
  simp only[iterX]at h ⊢
  split at h
  ·exact iterX_more h m (by omega)
  ·exact h
  ·simp at h
theorem loopX_of {σ ρ:Type}{step:σ->Option (σ ⊕ ρ)}{s:σ}{r:ρ}{n:Nat}(h:iterX step n s=some r):loopX step s=some r:=by
 unfold loopX
 have hx:∃r n,iterX step n s=some r:=⟨r,n,h⟩
 rw[dif_pos hx]
 obtain⟨m,hm⟩:=Classical.choose_spec hx
 have h1:=iterX_more h (max n m) (Nat.le_max_left _ _)
 have h2:=iterX_more hm (max n m) (Nat.le_max_right _ _)
 rw[h1]at h2
 rw[<-h2]
theorem loopX_eq {σ ρ:Type}(step:σ->Option (σ ⊕ ρ)) (s:σ):loopX step s=match step s with
  | some (.inl s')=>loopX step s'
  | some (.inr r)=>some r
  | none=>none:=by
 have key:∀r,loopX step s=some r ↔ (match step s with
  | some (.inl s')=>loopX step s'
  | some (.inr r)=>some r
  | none=>none)=some r:=by
  intro r
  constructor
  ·intro h
   obtain⟨n,hn⟩:=loopX_some h
   cases n with
   | zero=>simp [iterX]at hn
   | succ n =>
    simp only[iterX]at hn
    split at hn
    ·exact loopX_of hn
    ·exact hn
    ·simp at hn
  ·intro h
   split at h
   ·rename_i s' hs
    obtain⟨n,hn⟩:=loopX_some h
    exact loopX_of (n:=n+1) (by simp only[iterX,hs];exact hn)
   ·rename_i r' hs
    exact loopX_of (n:=1) (by simp only[iterX,hs];exact h)
   ·simp at h
 cases h:loopX step s with
 | some r=>exact ((key r).1 h).symm
 | none =>
  cases h2:(match step s with
   | some (.inl s')=>loopX step s'
   | some (.inr r)=>some r
   | none=>none) with
  | none=>rfl
  | some r=>rw[(key r).2 h2]at h;simp at h
def joinX {σ ρ:Type}(o:Option (σ ⊕ ρ)) (f:σ->Option ρ):Option ρ:=match o with
 | some (.inl s)=>f s
 | some (.inr r)=>some r
 | none=>none
def outX {σ ρ:Type}(o:Option ρ):Option (σ ⊕ ρ):=match o with
 | some r=>some (.inr r)
 | none=>none
theorem outX_some {σ ρ:Type}{o:Option ρ}{z:σ ⊕ ρ}(h:outX o=some z):∃r,z=.inr r/\o=some r:=by
 cases o with
 | none=>simp [outX]at h
 | some r=>simp only[outX,Option.some.injEq]at h;exact⟨r,h.symm,rfl⟩
end Go.Vs
namespace Go.Vs
variable [Glb]
structure GArg where
 ptr:Bool
 ag:Bool
 t:Ty
 ms:List M
 o:Option Ty
def optT:Option Ty->List Ty
 | none=>[]
 | some t=>[t]
def cts:Ty->List Ty
 | .P a b=>appT (cts a) (cts b)
 | t=>[t]
def noHT:Ty->Bool
 | .H _=>false
 | .P a b=>match noHT a with
  | true=>noHT b
  | false=>false
 | _=>true
def isLT:Ty->Bool
 | .L _=>true
 | _=>false
def ioTy1:List M->List Ty->List Ty
 | m::ms,t::ts=>match m,isLT t with
  | .io,true=>t::ioTy1 ms ts
  | _,_=>ioTy1 ms ts
 | _,_=>[]
def ioTys:List GArg->List Ty
 | []=>[]
 | a::as=>appT (ioTy1 a.ms (cts a.t)) (ioTys as)
def bxTys:List GArg->List Ty
 | []=>[]
 | a::as=>match a.ptr with
  | true=>appT (optT a.o) (bxTys as)
  | false=>bxTys as
def argTys:List GArg->List Ty
 | []=>[]
 | a::as=>a.t::argTys as
def resTys:List (Bool×Ty)->List Ty
 | []=>[]
 | r::rs=>r.2::resTys rs
def outTys (as:List GArg) (rs:List (Bool×Ty)):List Ty:=appT (resTys rs) (appT (ioTys as) (bxTys as))
def lenL {α:Type}:List α->Nat
 | []=>0
 | _::l=>Nat.succ (lenL l)
def encS (v:Sg):List D:=encT v.1 v.2
def mkG (a:GArg) (x:a.t.den):Arg:=match a.ptr with
 | true=>.ptr (a.ms.zip (encT a.t x))
 | false=>.val a.ag (a.ms.zip (encT a.t x))
def argsG:(as:List GArg)->Tp (argTys as)->List Arg
 | [],_=>[]
 | a::as,x=>mkG a (Tp.hd a.t _ x)::argsG as (Tp.tl a.t _ x)
def resG:List (Bool×Ty)->List Sg->List (Bool×List D)
 | (ag,_)::rs,v::vs=>(ag,encS v)::resG rs vs
 | _,_=>[]
def ioG:Sg->Nat×List (List D)
 | ⟨.L t,xs⟩=>(t.n,xs.map (encT t))
 | _=>(0,[])
def bxG:List GArg->List Sg->List (List D)
 | [],_=>[]
 | a::as,vs=>match a.ptr with
  | true=>match a.o,vs with
   | none,vs=>[]::bxG as vs
   | some _,v::vs=>encS v::bxG as vs
   | some _,[]=>[]
  | false=>bxG as vs
def outG (as:List GArg) (rs:List (Bool×Ty)) (vs:List Sg):Out :=
 ⟨resG rs (vs.take (lenL rs)),((vs.drop (lenL rs)).take (lenL (ioTys as))).map ioG,bxG as ((vs.drop (lenL rs)).drop (lenL (ioTys as)))⟩
structure GEnt (P:Program) where
 f:FuncId
 args:List GArg
 res:List (Bool×Ty)
 F:Tp (argTys args)->Option (Tp (outTys args res))
 ok:∀x y,F x=some y->Runs P f (argsG args x) (outG args res (spread _ y))
structure GC where
 a:GArg
 cs:List XC
 at?:Option (Nat×Nat)
def gather1 (X:XSt) (a:GArg) (v:XV):Option GC:=match a.ptr,a.ag,v with
 | false,false,.a (.c c)=>some ⟨a,[c],none⟩
 | false,true,.a (.ag cs)=>some ⟨a,cs,none⟩
 | true,_,.a (.c (.pb r c))=>match lk X.roots r with
  | some (_,.bx es)=>match Nat.ble (c+lenL a.ms) es.length with
   | true=>some ⟨a,((es.drop c).take (lenL a.ms)).map (·.2),some (r,c)⟩
   | false=>none
  | _=>none
 | _,_,_=>none
def gather (X:XSt):List GArg->List XV->Option (List GC)
 | [],[]=>some []
 | a::as,v::vs=>match gather1 X a v,gather X as vs with
  | some g,some gs=>match Nat.beq (lenL g.cs) a.t.n&&Nat.beq (lenL a.ms) a.t.n with
   | true=>some (g::gs)
   | false=>none
  | _,_=>none
 | _,_=>none
def zipG:List GC->List (M×XC)
 | []=>[]
 | g::gs=>g.a.ms.zip g.cs++zipG gs
def owZ:List (M×XC)->List XC
 | []=>[]
 | (m,c)::l=>match m with
  | .ow=>c::owZ l
  | _=>owZ l
def ioZ (R:XRs):List (M×XC)->Option (List Nat)
 | []=>some []
 | (m,c)::l=>match m with
  | .io=>match c with
   | .rw r=>match lk R r,ioZ R l with
    | some (_,.tr _ _),some ids=>some (r::ids)
    | _,_=>none
   | .rf r _ [(_,_)] 0 _ _=>match lk R r,ioZ R l with
    | some (_,.tr _ _),some ids=>some (r::ids)
    | _,_=>none
   | .nl _=>ioZ R l
   | c=>match isLeafX c with
    | true=>ioZ R l
    | false=>none
  | _=>ioZ R l
def rdZ:List (M×XC)->List Nat
 | []=>[]
 | (m,c)::l=>match m with
  | .rd=>refC c++rdZ l
  | .rx=>refC c++rdZ l
  | _=>rdZ l
def bxZ:List GC->List Nat
 | []=>[]
 | g::gs=>match g.at? with
  | some (r,_)=>r::bxZ gs
  | none=>bxZ gs
def readG {β:Type}(R:XRs):(as:List GArg)->List GC->(Tp (argTys as)->Option β)->Option β
 | [],_,k=>k ()
 | a::as,gs,k=>match gs with
  | g::gs=>readT R a.t g.cs fun x rest=>match rest with
   | []=>readG R as gs fun xs=>k (Tp.mk a.t _ x xs)
   | _=>none
  | []=>none
def getCX {β:Type}:(T:Ty)->Nat->(t:Ty)->T.den->(List t.den->Option β)->Option β
 | .L t0,c,t,e,f=>match c with
  | 0=>castL t0 t e f
  | _=>none
 | .P a b,c,t,e,f=>match Nat.blt c a.n with
  | true=>getCX a c t e.1 f
  | false=>getCX b (c-a.n) t e.2 f
 | _,_,_,_,_=>none
def setCX {β:Type}:(T:Ty)->Nat->(t:Ty)->List t.den->T.den->(T.den->Option β)->Option β
 | .L t0,c,t,ws,e,f=>match c with
  | 0=>castL t t0 ws f
  | _=>none
 | .P a b,c,t,ws,e,f=>match Nat.blt c a.n with
  | true=>setCX a c t ws e.1 fun x=>f (x,e.2)
  | false=>setCX b (c-a.n) t ws e.2 fun x=>f (e.1,x)
 | _,_,_,_,_,_=>none
def wholeX {β:Type}(R:XRs):List (M×XC)->Option β->Option β
 | [],k=>k
 | (m,c)::l,k=>match m with
  | .io=>match c with
   | .rf r v [(i,j)] 0 t ws=>match lk R r with
    | some (v',.tr T xs)=>match Nat.beq v' v with
     | true=>bnd (idx xs (Int.ofNat i)) fun e=>getCX T j t e fun o=>chk (nEq o.length ws.length) (wholeX R l k)
     | false=>none
    | _=>none
   | _=>wholeX R l k
  | _=>wholeX R l k
def ioX {β:Type}:List (M×XC)->List Sg->XSt->(XSt->Option β)->Option β
 | [],[],X,k=>k X
 | (m,c)::l,vs,X,k=>match m with
  | .io=>match c with
   | .rw r=>match vs with
    | ⟨.L t',xs'⟩::vs=>match lk X.roots r with
     | some (_,.tr t xs)=>castL t' t xs' fun xs'=>chk (nEq xs'.length xs.length) (ioX l vs (X.setR r (.tr t xs')) k)
     | _=>none
    | _=>none
   | .rf r _ [(i,j)] 0 t ws=>match vs with
    | ⟨.L t',xs'⟩::vs=>match lk X.roots r with
     | some (_,.tr T xs)=>castL t' t xs' fun xs'=>chk (nEq xs'.length ws.length) (bnd (idx xs (Int.ofNat i)) fun e=>setCX T j t xs' e fun e'=>ioX l vs (X.setR r (.tr T (lSet xs i e'))) k)
     | _=>none
    | _=>none
   | .nl _=>match vs with
    | _::vs=>ioX l vs X k
    | []=>none
   | _=>ioX l vs X k
  | _=>ioX l vs X k
 | [],_::_,_,_=>none
def mixX (s:Nat):List M->List Ty->List (Nat×XC)->List XC->List (Nat×XC)
 | m::ms,t::ts,e::es,ys=>match m,isLT t with
  | .rx,true=>e::mixX s ms ts es ys
  | _,_=>match ys with
   | y::ys=>(s,y)::mixX s ms ts es ys
   | []=>e::mixX s ms ts es []
 | _,_,_,_=>[]
def optN:Option Ty->Nat
 | none=>0
 | some t=>t.n
def bxX:List GC->List XC->XSt->Option XSt
 | [],_,X=>some X
 | g::gs,ys,X=>match g.at? with
  | some (r,c)=>match lk X.roots r with
   | some (_,.bx es)=>match Nat.ble (c+lenL g.a.ms) es.length&&noHT g.a.t with
    | true=>bxX gs (ys.drop (optN g.a.o)) (X.setR r (.bx (es.take c++(mixX X.stamp g.a.ms (cts g.a.t) ((es.drop c).take (lenL g.a.ms)) (ys.take (optN g.a.o))++es.drop (c+lenL g.a.ms)))))
    | false=>none
   | _=>none
  | none=>bxX gs ys X
def tcellsS:List Sg->List XD
 | []=>[]
 | v::vs=>tcells v.1 v.2++tcellsS vs
def callGF {β:Type}(X:XSt) (as:List GArg) (rs:List (Bool×Ty)) (F:Tp (argTys as)->Option (Tp (outTys as rs))) (vs:List XV) (k:XV->XSt->Option β):Option β:=match gather X as vs with
 | some gs=>match ownIds X.roots (owZ (zipG gs)),ioZ X.roots (zipG gs) with
  | some ow,some io=>match nodupN ow&&(nodupN (io++bxZ gs)&&(disjN ow io&&disjN (ow++(io++bxZ gs)) (rdZ (zipG gs)))) with
   | true=>wholeX X.roots (zipG gs) <| readG X.roots as gs fun x=>bnd (F x) fun y =>
    ioX (zipG gs) (((spread _ y).drop (lenL rs)).take (lenL (ioTys as))) (X.delRs ow) fun X2 =>
     match bxX gs ((newXs (tcellsS ((spread _ y).take (lenL rs)++((spread _ y).drop (lenL rs)).drop (lenL (ioTys as)))) X2).1.drop (lenL (tcellsS ((spread _ y).take (lenL rs))))) (newXs (tcellsS ((spread _ y).take (lenL rs)++((spread _ y).drop (lenL rs)).drop (lenL (ioTys as)))) X2).2 with
     | some X4=>k (resX (resAs rs (newXs (tcellsS ((spread _ y).take (lenL rs)++((spread _ y).drop (lenL rs)).drop (lenL (ioTys as)))) X2).1)) X4
     | none=>none
   | false=>none
  | _,_=>none
 | none=>none
def callG {P:Program}{β:Type}(X:XSt) (e:GEnt P) (vs:List XV) (k:XV->XSt->Option β):Option β:=callGF X e.args e.res e.F vs k
end Go.Vs
namespace Go.Vs
variable [Glb]
theorem lenL_eq {α:Type}:∀l:List α,lenL l=l.length
 | []=>rfl
 | _::l=>by simp only[lenL,List.length_cons,lenL_eq l]
theorem appT_eq:∀(a b:List Ty),appT a b=a++b
 | [],b=>rfl
 | t::a,b=>by simp only[appT,List.cons_append,appT_eq a b]
theorem cts_len:∀t:Ty,(cts t).length=t.n
 | .I _=>rfl
 | .Y=>rfl
 | .B=>rfl
 | .S=>rfl
 | .L _=>rfl
 | .H _=>rfl
 | .P a b=>by simp only[cts,appT_eq,List.length_append,cts_len a,cts_len b,Ty.n]
theorem spread_tys:∀(ts:List Ty) (y:Tp ts),(spread ts y).map (·.1)=ts
 | [],_=>rfl
 | t::ts,y=>by simp only[spread,List.map_cons,spread_tys ts]
def zip3:List M->List XC->List D->List (M×XC×D)
 | m::ms,c::cs,d::ds=>(m,c,d)::zip3 ms cs ds
 | _,_,_=>[]
def toV (R:XRs) (w:M×XC×D):M×C×D:=(w.1,cC R w.2.1,w.2.2)
def allW:(as:List GArg)->List GC->Tp (argTys as)->List (M×XC×D)
 | [],_,_=>[]
 | a::as,g::gs,x=>zip3 a.ms g.cs (encT a.t (Tp.hd a.t _ x))++allW as gs (Tp.tl a.t _ x)
 | _,[],_=>[]
section
variable {β:Type} {X:XSt} {S:St} {out:β} {P:Program}
theorem zipA_3 {R:XRs}:∀(ms:List M) (cs:List XC) (ds:List D),ms.length=cs.length->cs.length=ds.length->zipA (cs.map (cC R)) (ms.zip ds)=some ((zip3 ms cs ds).map (toV R))
 | [],[],[],_,_=>rfl
 | m::ms,c::cs,d::ds,h1,h2=>by
  simp only[List.length_cons,Nat.add_right_cancel_iff]at h1 h2
  simp only[List.map_cons,List.zip_cons_cons,zipA,zipA_3 ms cs ds h1 h2,Option.map_some,zip3]
  rfl
 | [],_::_,_,h,_=>by simp at h
 | _::_,[],_,h,_=>by simp at h
 | [],[],_::_,_,h=>by simp at h
 | _::_,_::_,[],_,h=>by simp at h
theorem zip3_cd {R:XRs}:∀{ms:List M}{cs:List XC}{ds:List D},All2 (CD R) cs ds->∀w∈zip3 ms cs ds,CD R w.2.1 w.2.2
 | [],_,_,_,w,hw=>by simp [zip3]at hw
 | m::ms,[],_,_,w,hw=>by simp [zip3]at hw
 | m::ms,c::cs,[],h,w,hw=>h.elim
 | m::ms,c::cs,d::ds,h,w,hw=>by
  simp only[zip3,List.mem_cons]at hw
  rcases hw with rfl|hw
  ·exact h.1
  ·exact zip3_cd h.2 w hw
theorem zip3_zip:∀{ms:List M}{cs:List XC}{ds:List D},cs.length=ds.length->(zip3 ms cs ds).map (fun w=>(w.1,w.2.1))=ms.zip cs
 | [],_,_,_=>by simp [zip3]
 | m::ms,[],[],_=>by simp [zip3]
 | m::ms,c::cs,d::ds,h=>by
  simp only[List.length_cons,Nat.add_right_cancel_iff]at h
  simp only[zip3,List.map_cons,List.zip_cons_cons,zip3_zip h]
 | m::ms,c::cs,[],h=>by simp at h
 | m::ms,[],_::_,h=>by simp at h
theorem gather1_ok (hX:XOk X) (hS:SimX X S){a:GArg}{v:XV}{y:V}{g:GC}{x:a.t.den}(hw:WkV y (cV X.roots v)) (ho:okV X.roots X.next X.stamp v) (h:gather1 X a v=some g) (hl:g.cs.length=a.t.n) (hm:a.ms.length=a.t.n) (hcd:All2 (CD X.roots) g.cs (encT a.t x)) :
  flatA S.roots y (mkG a x)=some ((zip3 a.ms g.cs (encT a.t x)).map (toV X.roots)):=by
 have hen:=encT_len a.t x
 have hz:=zipA_3 (R:=X.roots) a.ms g.cs (encT a.t x) (by omega) (by omega)
 have hlen:(a.ms.zip (encT a.t x)).length=a.ms.length:=by rw[List.length_zip];omega
 unfold gather1 at h
 split at h
 ·rename_i c hp hag
  simp only[Option.some.injEq]at h;subst h
  simp only at hcd hz hl
  match hd:encT a.t x,hcd with
  | [d],hcd =>
   rw[hd]at hz
   rw[hw.c hcd.1.ne]
   simp only[mkG,hp,hag,flatA,hd]
   exact hz
 ·rename_i cs hp hag
  simp only[Option.some.injEq]at h;subst h
  simp only at hcd hz hl
  cases y with
  | a z=>cases z with
   | ag ys =>
    have:=cd_known hcd hw
    subst this
    simp only[mkG,hp,hag,flatA]
    exact hz
   | c _=>exact hw.elim
  | _=>exact hw.elim
 ·rename_i r c hp
  split at h
  ·rename_i s es hle
   split at h
   ·rename_i hb
    simp only[Option.some.injEq]at h;subst h
    simp only at hcd hz hl
    have hb:=Nat.le_of_ble_eq_true hb
    rw[lenL_eq]at hb hcd hz hl
    simp only[cV,cA,cC,hle]at hw
    have hy:=hw.c (by simp)
    subst hy
    obtain⟨bs,g1,g2⟩:=box_sim hS hle
    have hbl:=g2.length
    rw[List.length_map]at hbl
    have g3:All2 WkC ((bs.drop c).take a.ms.length) ((((es.drop c).take a.ms.length).map (·.2)).map (cC X.roots)):=by
     have:=wk_take (n:=a.ms.length) (wk_drop (n:=c) g2)
     rw[List.map_map,List.map_take,List.map_drop]
     exact this
    have g4:=cd_known hcd g3
    simp only[mkG,hp,flatA,g1,hlen]
    rw[if_pos (by omega),g4,lenL_eq]
    exact hz
   ·simp at h
  ·simp at h
 ·simp at h
theorem gather_ok (hX:XOk X) (hS:SimX X S):∀(as:List GArg) (vs:List XV) (ys:List V) (gs:List GC) (k:Tp (argTys as)->Option β),All2 (fun y v=>WkV y (cV X.roots v)/\okV X.roots X.next X.stamp v) ys vs->gather X as vs=some gs->readG X.roots as gs k=some out ->
  ∃x,k x=some out/\flatAs S.roots ys (argsG as x)=some ((allW as gs x).map (toV X.roots))/\(∀w∈allW as gs x,CD X.roots w.2.1 w.2.2/\okC X.roots X.next X.stamp w.2.1)/\(allW as gs x).map (fun w=>(w.1,w.2.1))=zipG gs/\(handBx ys (argsG as x)).map (·.1)=bxZ gs
 | [],[],[],gs,k,_,hg,h=>by
  simp only[gather,Option.some.injEq]at hg;subst hg
  exact⟨(),h,rfl,by simp [allW],rfl,rfl⟩
 | a::as,v::vs,y::ys,gs,k,hw,hg,h=>by
  simp only[gather]at hg
  split at hg
  ·rename_i g gs' h1 h2
   split at hg
   ·rename_i hb
    simp only[Option.some.injEq]at hg;subst hg
    simp only[Bool.and_eq_true,lenL_eq]at hb
    have hb1:=Nat.eq_of_beq_eq_true hb.1
    have hb2:=Nat.eq_of_beq_eq_true hb.2
    simp only[readG]at h
    have hok:∀c∈g.cs,okC X.roots X.next X.stamp c:=by
     have h1':=h1
     unfold gather1 at h1'
     have ho:=hw.1.2
     split at h1'
     ·simp only[Option.some.injEq]at h1';subst h1';intro c hc;simp only[List.mem_singleton]at hc;subst hc;exact ho
     ·simp only[Option.some.injEq]at h1';subst h1';exact ho
     ·split at h1'
      ·rename_i s es hle
       split at h1'
       ·simp only[Option.some.injEq]at h1';subst h1'
        intro c hc
        obtain⟨e,he,rfl⟩:=List.mem_map.1 hc
        exact (hX.box _ s es hle e (List.mem_of_mem_drop (List.mem_of_mem_take he))).2
       ·simp at h1'
      ·simp at h1'
     ·simp at h1'
    obtain⟨x,c0,rest,hc,h,hcd⟩:=readT_ok a.t g.cs _ out hok h
    split at h
    ·rw[List.append_nil]at hc
     subst hc
     obtain⟨xs,h,f1,f2,f3,f4⟩:=gather_ok hX hS as vs ys gs' _ hw.2 h2 h
     have g1:=gather1_ok (x:=x) hX hS hw.1.1 hw.1.2 h1 hb1 hb2 hcd
     refine⟨_,h, ?_, ?_, ?_, ?_⟩
     ·simp only[argsG,Tp.hd_mk,Tp.tl_mk,flatAs,g1,f1,allW,List.map_append]
     ·intro w hw'
      simp only[allW,Tp.hd_mk,Tp.tl_mk,List.mem_append]at hw'
      rcases hw' with hw'|hw'
      ·refine⟨zip3_cd hcd w hw', ?_⟩
       have key:∀(ms:List M) (cs:List XC) (ds:List D),w∈zip3 ms cs ds->w.2.1∈cs:=by
        intro ms
        induction ms with
        | nil=>intro cs ds h;simp [zip3]at h
        | cons m ms ih =>
         intro cs ds h
         cases cs with
         | nil=>simp [zip3]at h
         | cons c cs=>cases ds with
          | nil=>simp [zip3]at h
          | cons d ds =>
           simp only[zip3,List.mem_cons]at h
           rcases h with rfl|h
           ·exact List.mem_cons_self
           ·exact List.mem_cons_of_mem _ (ih cs ds h)
       exact hok _ (key _ _ _ hw')
      ·exact f2 w hw'
     ·simp only[allW,Tp.hd_mk,Tp.tl_mk,List.map_append,zipG,f3]
      have hga:g.a=a:=by
       unfold gather1 at h1
       split at h1
       ·simp only[Option.some.injEq]at h1;subst h1;rfl
       ·simp only[Option.some.injEq]at h1;subst h1;rfl
       ·split at h1
        ·split at h1
         ·simp only[Option.some.injEq]at h1;subst h1;rfl
         ·simp at h1
        ·simp at h1
       ·simp at h1
      rw[zip3_zip (by rw[encT_len];exact hb1),hga]
     ·-- variables that are handed
      simp only[argsG,Tp.hd_mk,Tp.tl_mk]
      have h1':=h1
      unfold gather1 at h1'
      split at h1'
      ·rename_i c hp hag
       simp only[Option.some.injEq]at h1';subst h1'
       simp only[mkG,hp,bxZ,handBx,f4]
      ·rename_i cs hp hag
       simp only[Option.some.injEq]at h1';subst h1'
       simp only[mkG,hp,bxZ,handBx,f4]
      ·rename_i r c hp
       split at h1'
       ·rename_i s es hle
        split at h1'
        ·simp only[Option.some.injEq]at h1';subst h1'
         have hy:y=.a (.c (.pb r c)):=by
          have:=hw.1.1
          simp only[cV,cA,cC,hle]at this
          exact this.c (by simp)
         subst hy
         simp only[mkG,hp,bxZ,handBx,List.map_cons,f4]
        ·simp at h1'
       ·simp at h1'
      ·simp at h1'
    ·simp at h
   ·simp at hg
  ·simp at hg
 | [],_::_,_,_,_,_,hg,_=>by simp [gather]at hg
 | _::_,[],_,_,_,_,hg,_=>by simp [gather]at hg
 | [],[],_::_,_,_,hw,_,_=>hw.elim
 | _::_,_::_,[],_,_,hw,_,_=>hw.elim
theorem owZ_fl {R:XRs}:∀(W:List (M×XC×D)),(∀w∈W,CD R w.2.1 w.2.2)->(((W.map (toV R)).filter isOw).map (·.2.1))=(owZ (W.map fun w=>(w.1,w.2.1))).map (cC R)/\All2 (CD R) (owZ (W.map fun w=>(w.1,w.2.1))) (((W.map (toV R)).filter isOw).map (·.2.2))
 | [],_=>⟨rfl,trivial⟩
 | (m,c,d)::W,h=>by
  obtain⟨a,b⟩:=owZ_fl W fun w hw=>h w (List.mem_cons_of_mem _ hw)
  have hc:=h _ List.mem_cons_self
  cases m with
  | ow =>
   have e:isOw (toV R (M.ow,c,d))=true:=rfl
   simp only[List.map_cons,List.filter_cons,e,if_true,owZ]
   exact⟨by rw[a];rfl,⟨hc,b⟩⟩
  | rd =>
   have e:isOw (toV R (M.rd,c,d))=false:=rfl
   simp only[List.map_cons,List.filter_cons,e,owZ]
   exact⟨a,b⟩
  | rx =>
   have e:isOw (toV R (M.rx,c,d))=false:=rfl
   simp only[List.map_cons,List.filter_cons,e,owZ]
   exact⟨a,b⟩
  | io =>
   have e:isOw (toV R (M.io,c,d))=false:=rfl
   simp only[List.map_cons,List.filter_cons,e,owZ]
   exact⟨a,b⟩
theorem cd_rw {R:XRs}{r s:Nat}{t:Ty}{xs:List t.den}{d:D}(hl:lk R r=some (s,.tr t xs)) (h:CD R (.rw r) d):d=.sl t.n (xs.map (encT t)):=by
 refine cd_fun h (.inr (.inr ⟨t,xs,r,[],0,xs.map (encT t),by simp [cC,hl], ?_,by simp, ?_,rfl,.inl rfl⟩))
 ·simp only[nodeX,hl];rfl
 ·rw[List.drop_zero,List.take_of_length_le (by simp)]
theorem leaf_cd {R:XRs}{c:XC}{d:D}(hl:isLeafX c=true) (h:CD R c d):∃v,cC R c=.lf v/\d=.lf v:=by
 rcases h with h|⟨n,rfl,_⟩|⟨t,ws,r,p,lo,l,h1,_⟩
 ·exact h
 ·simp [isLeafX]at hl
 ·exfalso
  cases c<;>simp [isLeafX]at hl<;>simp [cC]at h1
theorem rf_cd {R:XRs}{r v lo:Nat}{p:Path}{t:Ty}{ws:List t.den}{d:D}(h:CD R (.rf r v p lo t ws) d):cC R (.rf r v p lo t ws)=.rf r p t.n lo ws.length/\∃(t':Ty) (ws':List t'.den),d=.sl t'.n (ws'.map (encT t')):=by
 rcases h with ⟨v',h,_⟩|⟨n,h,_⟩|⟨t',ws',r',p',lo',l,h,_,_,_,hd,_⟩
 ·simp only[cC]at h;split at h<;>simp at h
 ·simp at h
 ·refine⟨?_,t',ws',hd⟩
  simp only[cC]at h ⊢
  split at h
  ·rfl
  ·simp at h
theorem getCX_ok {β:Type}{out:β}:∀(T:Ty) (c:Nat) (t:Ty) (e:T.den) (f:List t.den->Option β),getCX T c t e f=some out->∃o,f o=some out/\(encT T e)[c]? = some (.sl t.n (o.map (encT t)))
 | .L t0,c,t,e,f,h=>by
  unfold getCX at h
  cases c with
  | zero =>
   obtain⟨o,h1,rfl,h3,_⟩:=cast_some h
   exact⟨o,h1,by simp only[encT,List.getElem?_cons_zero,h3]⟩
  | succ c=>simp at h
 | .P a b,c,t,e,f,h=>by
  unfold getCX at h
  split at h
  ·rename_i hb
   obtain⟨o,h1,h2⟩:=getCX_ok a c t e.1 f h
   refine⟨o,h1, ?_⟩
   have hb:c<a.n:=Nat.le_of_ble_eq_true hb
   simp only[encT]
   rw[List.getElem?_append_left (by rw[encT_len];exact hb)];exact h2
  ·rename_i hb
   obtain⟨o,h1,h2⟩:=getCX_ok b (c-a.n) t e.2 f h
   refine⟨o,h1, ?_⟩
   have hb:a.n<=c:=by
    exact Nat.le_of_lt_succ (Nat.lt_of_not_le (Nat.not_le_of_not_ble_eq_true (by rw[show (c+1).ble a.n=false from hb];simp)))
   simp only[encT]
   rw[List.getElem?_append_right (by rw[encT_len];exact hb),encT_len];exact h2
 | .I _,c,t,e,f,h=>by simp [getCX]at h
 | .Y,c,t,e,f,h=>by simp [getCX]at h
 | .B,c,t,e,f,h=>by simp [getCX]at h
 | .S,c,t,e,f,h=>by simp [getCX]at h
theorem setCX_ok {β:Type}{out:β}:∀(T:Ty) (c:Nat) (t:Ty) (ws:List t.den) (e:T.den) (f:T.den->Option β),setCX T c t ws e f=some out->∃e' o,f e'=some out/\encT T e'=(encT T e).set c (.sl t.n (ws.map (encT t)))/\(encT T e)[c]? = some (.sl t.n o)
 | .L t0,c,t,ws,e,f,h=>by
  unfold setCX at h
  cases c with
  | zero =>
   obtain⟨o,h1,rfl,h3,_⟩:=cast_some h
   exact⟨o,e.map (encT t),h1,by simp only[encT,List.set_cons_zero,h3],rfl⟩
  | succ c=>simp at h
 | .P a b,c,t,ws,e,f,h=>by
  unfold setCX at h
  split at h
  ·rename_i hb
   obtain⟨e',o,h1,h2,h3⟩:=setCX_ok a c t ws e.1 _ h
   refine⟨(e',e.2),o,h1, ?_, ?_⟩
   ·have hb:c<a.n:=Nat.le_of_ble_eq_true hb
    simp only[encT]
    rw[List.set_append_left _ _ (by rw[encT_len];exact hb),h2]
   ·have hb:c<a.n:=Nat.le_of_ble_eq_true hb
    simp only[encT]
    rw[List.getElem?_append_left (by rw[encT_len];exact hb)];exact h3
  ·rename_i hb
   obtain⟨e',o,h1,h2,h3⟩:=setCX_ok b (c-a.n) t ws e.2 _ h
   have hb:a.n<=c:=by
    exact Nat.le_of_lt_succ (Nat.lt_of_not_le (Nat.not_le_of_not_ble_eq_true (by rw[show (c+1).ble a.n=false from hb];simp)))
   refine⟨(e.1,e'),o,h1, ?_, ?_⟩
   ·simp only[encT]
    rw[List.set_append_right _ _ (by rw[encT_len];exact hb),encT_len,h2]
   ·simp only[encT]
    rw[List.getElem?_append_right (by rw[encT_len];exact hb),encT_len];exact h3
 | .I _,c,t,ws,e,f,h=>by simp [setCX]at h
 | .Y,c,t,ws,e,f,h=>by simp [setCX]at h
 | .B,c,t,ws,e,f,h=>by simp [setCX]at h
 | .S,c,t,ws,e,f,h=>by simp [setCX]at h
theorem wholeX_ok {β:Type}{out:β}{R:XRs}:∀(Z:List (M×XC)){k:Option β},wholeX R Z k=some out->k=some out/\∀(r v i j:Nat) (t:Ty) (ws:List t.den),(M.io,XC.rf r v [(i,j)] 0 t ws)∈Z->∃(T:Ty) (xs:List T.den) (o:List t.den),lk R r=some (v,.tr T xs)/\nodeAt T.n (xs.map (encT T)) [(i,j)]=some (t.n,o.map (encT t))/\o.length=ws.length
 | [],k,h=>⟨h,by simp⟩
 | (m,c)::Z,k,h=>by
  have skip:wholeX R Z k=some out->(∀(r v i j:Nat) (t:Ty) (ws:List t.den),¬((m,c)=(M.io,XC.rf r v [(i,j)] 0 t ws)))->k=some out/\∀(r v i j:Nat) (t:Ty) (ws:List t.den),(M.io,XC.rf r v [(i,j)] 0 t ws)∈(m,c)::Z->∃(T:Ty) (xs:List T.den) (o:List t.den),lk R r=some (v,.tr T xs)/\nodeAt T.n (xs.map (encT T)) [(i,j)]=some (t.n,o.map (encT t))/\o.length=ws.length:=by
   intro h hne
   obtain⟨a,b⟩:=wholeX_ok Z h
   exact⟨a,fun r v i j t ws hm=>b r v i j t ws ((List.mem_cons.1 hm).resolve_left fun e=>hne r v i j t ws e.symm)⟩
  simp only[wholeX]at h
  cases m with
  | io =>
   simp only at h
   split at h
   ·rename_i r v i j t ws
    split at h
    ·rename_i v' T xs hl
     split at h
     ·rename_i hb
      have hb:=Nat.eq_of_beq_eq_true hb
      subst hb
      obtain⟨e,he,h⟩:=bnd_some h
      obtain⟨o,h,ho⟩:=getCX_ok T j t e _ h
      obtain⟨hn,h⟩:=chk_some h
      simp only[nEq,decide_eq_true_eq]at hn
      obtain⟨a,b⟩:=wholeX_ok Z h
      refine⟨a,fun r2 v2 i2 j2 t2 ws2 hm=>?_⟩
      rcases List.mem_cons.1 hm with e'|hm
      ·simp only[Prod.mk.injEq,XC.rf.injEq,true_and,List.cons.injEq,and_true]at e'
       obtain⟨rfl,rfl,⟨rfl,rfl⟩,rfl,e5⟩:=e'
       have e5:=eq_of_heq e5
       subst e5
       refine⟨T,xs,o,hl, ?_,hn⟩
       simp only[nodeAt,List.getElem?_map]
       have he':xs[i2]? = some e:=by simpa [idx] using he
       rw[he']
       simp only[Option.map_some,Option.bind_some,ho]
      ·exact b r2 v2 i2 j2 t2 ws2 hm
     ·simp at h
    ·simp at h
   ·rename_i hne
    exact skip h fun r v i j t ws e=>by
     simp only[Prod.mk.injEq,true_and]at e
     exact hne r v i j t ws e
  | rd=>exact skip h fun r v i j t ws e=>by simp at e
  | rx=>exact skip h fun r v i j t ws e=>by simp at e
  | ow=>exact skip h fun r v i j t ws e=>by simp at e
theorem ioZ_fl {R:XRs}:∀(W:List (M×XC×D)) (io:List Nat),(∀w∈W,CD R w.2.1 w.2.2)->ioZ R (W.map fun w=>(w.1,w.2.1))=some io->handIo (W.map (toV R))=io
 | [],io,_,h=>by simp only[List.map_nil,ioZ,Option.some.injEq]at h;subst h;rfl
 | (m,c,d)::W,io,hc,h=>by
  have ih:=fun io h=>ioZ_fl W io (fun w hw=>hc w (List.mem_cons_of_mem _ hw)) h
  have hcd:=hc _ List.mem_cons_self
  simp only at hcd
  simp only[List.map_cons,ioZ]at h
  cases m with
  | io =>
   simp only at h
   split at h
   ·rename_i r
    split at h
    ·rename_i s t xs ids hl hi
     simp only[Option.some.injEq]at h;subst h
     have hd:=cd_rw hl hcd
     subst hd
     simp only[List.map_cons,toV,cC,hl,handIo,ih ids hi]
    ·simp at h
   ·rename_i r v i j t ws
    split at h
    ·rename_i s T xs ids hl hi
     simp only[Option.some.injEq]at h;subst h
     obtain⟨e1,t1,ws1,rfl⟩:=rf_cd hcd
     simp only[List.map_cons,toV,e1,handIo,ih ids hi]
    ·simp at h
   ·rename_i n
    rcases hcd with ⟨v,h1,_⟩|⟨n',h1,rfl⟩|⟨t,ws,r,p,lo,l,h1,_⟩
    ·simp [cC]at h1
    ·simp only[List.map_cons,toV,cC,handIo];exact ih io h
    ·simp [cC]at h1
   ·split at h
    ·rename_i hlf
     obtain⟨v,h1,rfl⟩:=leaf_cd hlf hcd
     simp only[List.map_cons,toV,h1,handIo];exact ih io h
    ·simp at h
  | rd=>simp only[List.map_cons,toV,handIo];exact ih io h
  | rx=>simp only[List.map_cons,toV,handIo];exact ih io h
  | ow=>simp only[List.map_cons,toV,handIo];exact ih io h
theorem ref_root {R:XRs}{c:XC}{r:Nat}{p:Path}{s lo n:Nat}(h:cC R c=.rf r p s lo n):r∈refC c:=by
 cases c with
 | rw q=>simp only[cC]at h;split at h<;>simp at h<;>simp [refC,h.1]
 | rv q _ _=>simp only[cC]at h;split at h<;>simp at h<;>simp [refC,h.1]
 | rf q v p' lo' t ws=>simp only[cC]at h;split at h<;>simp at h;simp [refC,h.1]
 | pe _ _ _ _ _ _ _=>simp only[cC]at h;split at h<;>simp at h
 | pb _ _=>simp only[cC]at h;split at h<;>simp at h
 | _=>simp [cC]at h
theorem rdZ_mem:∀{Z:List (M×XC)}{m:M}{c:XC}{r:Nat},(m,c)∈Z->m=.rd\/m=.rx->r∈refC c->r∈rdZ Z
 | [],m,c,r,h,_,_=>by simp at h
 | (m',c')::Z,m,c,r,h,hm,hr=>by
  rcases List.mem_cons.1 h with e|h'
  ·simp only[Prod.mk.injEq]at e
   obtain⟨rfl,rfl⟩:=e
   rcases hm with rfl|rfl<;>(simp only[rdZ];exact List.mem_append_left _ hr)
  ·cases m' with
   | rd=>simp only[rdZ];exact List.mem_append_right _ (rdZ_mem h' hm hr)
   | rx=>simp only[rdZ];exact List.mem_append_right _ (rdZ_mem h' hm hr)
   | ow=>simp only[rdZ];exact rdZ_mem h' hm hr
   | io=>simp only[rdZ];exact rdZ_mem h' hm hr
theorem ioZ_mem {R:XRs}:∀{Z:List (M×XC)}{io:List Nat}{c:XC},ioZ R Z=some io->(M.io,c)∈Z->(∃r s t xs,c=.rw r/\lk R r=some (s,.tr t xs)/\r∈io)\/((∃n,c=.nl n)\/isLeafX c=true)\/∃r v i j t ws s T xs,c=.rf r v [(i,j)] 0 t ws/\lk R r=some (s,.tr T xs)/\r∈io
 | [],io,c,_,hc=>by simp at hc
 | (m,c')::Z,io,c,h,hc=>by
  simp only[ioZ]at h
  cases m with
  | io =>
   simp only at h
   split at h
   ·rename_i r
    split at h
    ·rename_i s t xs ids hl hi
     simp only[Option.some.injEq]at h;subst h
     rcases List.mem_cons.1 hc with e|hc
     ·simp only[Prod.mk.injEq,true_and]at e;subst e
      exact .inl ⟨r,s,t,xs,rfl,hl,List.mem_cons_self⟩
     ·rcases ioZ_mem hi hc with ⟨r',s',t',xs',a,b,d⟩|h|h
      ·exact .inl ⟨r',s',t',xs',a,b,List.mem_cons_of_mem _ d⟩
      ·exact .inr (.inl h)
      ·obtain⟨a1,a2,a3,a4,a5,a6,a7,a8,a9,b1,b2,b3⟩:=h
       exact .inr (.inr ⟨a1,a2,a3,a4,a5,a6,a7,a8,a9,b1,b2,List.mem_cons_of_mem _ b3⟩)
    ·simp at h
   ·rename_i r v i j t ws
    split at h
    ·rename_i s T xs ids hl hi
     simp only[Option.some.injEq]at h;subst h
     rcases List.mem_cons.1 hc with e|hc
     ·simp only[Prod.mk.injEq,true_and]at e;subst e
      exact .inr (.inr ⟨r,v,i,j,t,ws,s,T,xs,rfl,hl,List.mem_cons_self⟩)
     ·rcases ioZ_mem hi hc with ⟨r',s',t',xs',a,b,d⟩|h|h
      ·exact .inl ⟨r',s',t',xs',a,b,List.mem_cons_of_mem _ d⟩
      ·exact .inr (.inl h)
      ·obtain⟨a1,a2,a3,a4,a5,a6,a7,a8,a9,b1,b2,b3⟩:=h
       exact .inr (.inr ⟨a1,a2,a3,a4,a5,a6,a7,a8,a9,b1,b2,List.mem_cons_of_mem _ b3⟩)
    ·simp at h
   ·rename_i n
    rcases List.mem_cons.1 hc with e|hc
    ·simp only[Prod.mk.injEq,true_and]at e;subst e;exact .inr (.inl (.inl ⟨n,rfl⟩))
    ·exact ioZ_mem h hc
   ·split at h
    ·rename_i hlf
     rcases List.mem_cons.1 hc with e|hc
     ·simp only[Prod.mk.injEq,true_and]at e;subst e;exact .inr (.inl (.inr hlf))
     ·exact ioZ_mem h hc
    ·simp at h
  | rd=>exact ioZ_mem h ((List.mem_cons.1 hc).resolve_left (by simp))
  | rx=>exact ioZ_mem h ((List.mem_cons.1 hc).resolve_left (by simp))
  | ow=>exact ioZ_mem h ((List.mem_cons.1 hc).resolve_left (by simp))
theorem seen_ok (hS:SimX X S){W:List (M×XC×D)}{ow io hb:List Nat}{rt:List (Nat×Root)}(hW:∀w∈W,CD X.roots w.2.1 w.2.2) (hio:ioZ X.roots (W.map fun w=>(w.1,w.2.1))=some io) (hrt:∀r,get rt r=if r∈ow then none else get S.roots r) (hd1:∀r∈io,r ∉ ow) (hd2:∀r∈rdZ (W.map fun w=>(w.1,w.2.1)),r ∉ ow++(io++hb)) (hwh:∀(r v i j:Nat) (t:Ty) (ws:List t.den),(M.io,XC.rf r v [(i,j)] 0 t ws)∈W.map (fun w=>(w.1,w.2.1))->∃(T:Ty) (xs:List T.den) (o:List t.den),lk X.roots r=some (v,.tr T xs)/\nodeAt T.n (xs.map (encT T)) [(i,j)]=some (t.n,o.map (encT t))/\o.length=ws.length):∀x∈W.map (toV X.roots),seen rt (io++hb) x:=by
 intro x hx
 obtain⟨⟨m,c,d⟩,hw,rfl⟩:=List.mem_map.1 hx
 have hcd:=hW _ hw
 simp only at hcd
 have hz:(m,c)∈W.map fun w=>(w.1,w.2.1):=List.mem_map.2 ⟨_,hw,rfl⟩
 simp only[toV]
 have rdcase:(m=.rd\/m=.rx)->∀{t:Ty} {ws:List t.den} {r:Nat} {p:Path} {lo:Nat} {l:List (List D)},cC X.roots c=.rf r p t.n lo ws.length->nodeX X.roots r p=some (t.n,l)->lo+ws.length<=l.length->(l.drop lo).take ws.length=ws.map (encT t)->(lo=0\/0<ws.length) ->
   t.n=t.n/\(lo=0\/0<ws.length)/\r ∉ io++hb/\∃l,nodeIn rt r p=some (t.n,l)/\lo+ws.length<=l.length/\ws.map (encT t)=(l.drop lo).take ws.length:=by
  intro hm t ws r p lo l h1 h2 h3 h4 h5
  have hr:=hd2 r (rdZ_mem hz hm (ref_root h1))
  rw[List.mem_append,not_or]at hr
  refine⟨rfl,h5,hr.2,l, ?_,h3,h4.symm⟩
  have:=node_sim hS h2
  unfold nodeIn at this ⊢
  rw[hrt r,if_neg hr.1]
  exact this
 rcases hcd with ⟨v,h1,rfl⟩|⟨n,rfl,rfl⟩|⟨t,ws,r,p,lo,l,h1,h2,h3,h4,rfl,h6⟩
 ·cases m<;>first|trivial|exact h1
 ·cases m<;>first|trivial|exact⟨rfl,rfl⟩
 ·cases m with
  | ow=>trivial
  | rd=>rw[h1];exact rdcase (.inl rfl) h1 h2 h3 h4 h6
  | rx=>rw[h1];exact rdcase (.inr rfl) h1 h2 h3 h4 h6
  | io =>
   rcases ioZ_mem hio hz with ⟨r',s,t',xs,rfl,hl,hin⟩|(⟨n,rfl⟩|hlf)|⟨r',v,i,j,t',ws',s,T,xs,rfl,hl,hin⟩
   ·simp only[cC,hl,C.rf.injEq]at h1
    obtain⟨rfl,rfl,e3,rfl,e5⟩:=h1
    obtain⟨y',y1,y2⟩:=hS.roots r' s _ hl _ rfl
    have hg:get S.roots r'=some (.tr t'.n (xs.map (encT t'))):=by
     cases y' with
     | tr _ _=>obtain⟨rfl,rfl⟩:=y2;exact y1
     | _=>exact y2.elim
    simp only[nodeX,hl,nodeAt,Option.some.injEq,Prod.mk.injEq]at h2
    obtain⟨e6,rfl⟩:=h2
    rw[List.drop_zero,<-e5,List.take_of_length_le (by simp)]at h4
    simp only[cC,hl]
    refine⟨e3,rfl,by rw[List.length_map,e5],t'.n,xs.map (encT t'),by rw[hrt r',if_neg (hd1 r' hin)];exact hg, ?_⟩
    simp only[nodeAt,Option.some.injEq,Prod.mk.injEq]
    exact⟨e3,h4⟩
   ·simp [cC]at h1
   ·exfalso
    cases c<;>simp [isLeafX]at hlf<;>simp [cC]at h1
   ·obtain⟨T',xs',o,w1,w2,w3⟩:=hwh _ _ _ _ _ _ hz
    have hv:verOk X.roots r' v=true:=verOk_of w1
    simp only[cC,hv,C.rf.injEq]at h1
    obtain⟨rfl,rfl,e3,rfl,e5⟩:=h1
    obtain⟨y',y1,y2⟩:=hS.roots r' _ _ w1 _ rfl
    have hg:get S.roots r'=some (.tr T'.n (xs'.map (encT T'))):=by
     cases y' with
     | tr _ _=>obtain⟨rfl,rfl⟩:=y2;exact y1
     | _=>exact y2.elim
    simp only[nodeX,w1,w2,Option.some.injEq,Prod.mk.injEq]at h2
    obtain⟨e6,rfl⟩:=h2
    rw[List.drop_zero,<-e5,<-w3,List.take_of_length_le (by simp)]at h4
    simp only[cC,hv]
    refine⟨e3,rfl,by rw[List.length_map,e5],T'.n,xs'.map (encT T'),by rw[hrt r',if_neg (hd1 r' hin)];exact hg, ?_⟩
    rw[w2,e3,h4]
end
end Go.Vs
namespace Go.Vs
variable [Glb]
section
variable {β:Type} {X:XSt} {S:St} {out:β} {P:Program}
theorem set_tree {E:List (Nat×V)}{R:List (Nat×Root)}{n f r s:Nat}{t:Ty}{xs xs':List t.den}(hX:XOk X) (hS:SimX X ⟨E,R,n,f⟩) (hl:lk X.roots r=some (s,.tr t xs)) (hn:xs'.length=xs.length) :
  XOk (X.setR r (.tr t xs'))/\Ext X (X.setR r (.tr t xs'))/\SimX (X.setR r (.tr t xs')) ⟨E,put R r (.tr t.n (xs'.map (encT t))),n,f⟩:=by
 obtain⟨a,b⟩:=chg_ok hX (x:=.tr t xs') (Nat.le_refl _) (hX.ids r s _ hl).1 (fun cs h=>by simp at h)
 refine⟨a,b, ?_⟩
 have key:∀c',okC X.roots X.next X.stamp c'->cC ((r,X.stamp,.tr t xs')::X.roots) c'=.un\/cC ((r,X.stamp,.tr t xs')::X.roots) c'=killCs [] (cC X.roots c'):=fun c' hc=>cC_cons (.inr (.inr (.inr ⟨t,xs',xs,s,rfl,hl,hn⟩))) hc
 have e:=hS.next
 simp only at e
 subst e
 refine sim_step (X':=X.setR r (.tr t xs')) (ks:=[]) (roots:=put R r (.tr t.n (xs'.map (encT t)))) hX hS rfl rfl key ?_
 intro q s' z hq
 simp only[XSt.setR]at hq
 rw[lk_cons]at hq
 split at hq
 ·rename_i e
  simp only at e;subst e
  simp only[Option.some.injEq,Prod.mk.injEq]at hq
  obtain⟨_,rfl⟩:=hq
  right
  intro y hy
  simp only[cRt,Option.some.injEq]at hy;subst hy
  exact⟨.tr t.n (xs'.map (encT t)),by rw[get_put,if_pos rfl],rfl,rfl⟩
 ·rename_i e
  left
  exact⟨hq,by rw[omap_nil,get_put,if_neg e]⟩
def Same (X X':XSt) (R R':List (Nat×Root)):Prop:=∀r s x,lk X'.roots r=some (s,x)->s<X.stamp->get R' r=get R r
theorem Same.refl (X:XSt) (R:List (Nat×Root)):Same X X R R:=fun _ _ _ _ _=>rfl
theorem Same.trans {X Y Z:XSt}{R R' R2:List (Nat×Root)}(h1:Same X Y R R') (h2:Same Y Z R' R2) (e1:Ext X Y) (e2:Ext Y Z):Same X Z R R2:=fun r s x hl hs=>by
 have hs':=Nat.lt_of_lt_of_le hs e1.stamp
 rw[h2 r s x hl hs']
 exact h1 r s x (e2.roots r s x hl hs') hs
theorem same_set {r:Nat}{x:XR}{R:List (Nat×Root)}{y:Root}:Same X (X.setR r x) R (put R r y):=by
 intro q s z hq hs
 simp only[XSt.setR]at hq
 rw[lk_cons]at hq
 split at hq
 ·simp only[Option.some.injEq,Prod.mk.injEq]at hq;omega
 ·rename_i e;rw[get_put,if_neg e]
theorem ioX_ok {X0:XSt}:∀(W:List (M×XC×D)) (vs:List Sg){X:XSt}{E:List (Nat×V)}{R:List (Nat×Root)}{n f:Nat}(io:List Nat) (k:XSt->Option β),XOk X->SimX X ⟨E,R,n,f⟩->(∀w∈W,CD X0.roots w.2.1 w.2.2)->ioZ X0.roots (W.map fun w=>(w.1,w.2.1))=some io->ioX (W.map fun w=>(w.1,w.2.1)) vs X k=some out ->
  ∃X' R',k X'=some out/\XOk X'/\Ext X X'/\SimX X' ⟨E,R',n,f⟩/\backIo R (W.map (toV X0.roots)) (vs.map ioG)=some R'/\Same X X' R R'/\X'.env=X.env
 | [],vs,X,E,R,n,f,io,k,hX,hS,hW,hio,h=>by
  cases vs with
  | nil=>simp only[List.map_nil,ioX]at h;exact⟨X,R,h,hX,Ext.refl X,hS,rfl,Same.refl X R,rfl⟩
  | cons v vs=>simp [ioX]at h
 | (m,c,d)::W,vs,X,E,R,n,f,io,k,hX,hS,hW,hio,h=>by
  have hcd:=hW _ List.mem_cons_self
  have hW':=fun w hw=>hW w (List.mem_cons_of_mem _ hw)
  simp only at hcd
  simp only[List.map_cons,ioZ]at hio
  simp only[List.map_cons,ioX]at h
  have plain:∀(io':List Nat),ioZ X0.roots (W.map fun w=>(w.1,w.2.1))=some io'->ioX (W.map fun w=>(w.1,w.2.1)) vs X k=some out->(∀o,backIo R (toV X0.roots (m,c,d)::W.map (toV X0.roots)) o=backIo R (W.map (toV X0.roots)) o) ->
    ∃X' R',k X'=some out/\XOk X'/\Ext X X'/\SimX X' ⟨E,R',n,f⟩/\backIo R (((m,c,d)::W).map (toV X0.roots)) (vs.map ioG)=some R'/\Same X X' R R'/\X'.env=X.env:=by
   intro io' h1 h2 h3
   obtain⟨X',R',q1,q2,q3,q4,q5,q6,q7⟩:=ioX_ok W vs io' k hX hS hW' h1 h2
   exact⟨X',R',q1,q2,q3,q4,by rw[List.map_cons,h3];exact q5,q6,q7⟩
  cases m with
  | rd=>exact plain io hio h fun o=>by cases o<;>simp only[toV,backIo]
  | rx=>exact plain io hio h fun o=>by cases o<;>simp only[toV,backIo]
  | ow=>exact plain io hio h fun o=>by cases o<;>simp only[toV,backIo]
  | io =>
   simp only at hio h
   split at h
   ·rename_i r
    simp only at hio
    split at hio
    ·rename_i s0 t0 xs0 ids hl0 hi0
     simp only[Option.some.injEq]at hio;subst hio
     split at h
     ·rename_i t' ys vs'
      split at h
      ·rename_i s t xs hl
       obtain⟨xs',h,rfl,g3,g4⟩:=cast_some h
       obtain⟨hn,h⟩:=chk_some h
       simp only[nEq,decide_eq_true_eq]at hn
       obtain⟨a,b,c'⟩:=set_tree (xs':=xs') hX hS hl hn
       obtain⟨X',R',q1,q2,q3,q4,q5,q6,q7⟩:=ioX_ok W vs' ids k a c' hW' hi0 h
       have hd:=cd_rw hl0 hcd
       subst hd
       obtain⟨y',y1,y2⟩:=hS.roots r s _ hl _ rfl
       have hg:get R r=some (.tr t'.n (xs.map (encT t'))):=by
        cases y' with
        | tr _ _=>obtain⟨rfl,rfl⟩:=y2;exact y1
        | _=>exact y2.elim
       refine⟨X',R',q1,q2,b.trans q3,q4, ?_,same_set.trans q6 b q3,q7⟩
       simp only[List.map_cons,toV,cC,hl0,ioG,backIo,hg,updNode,g3]
       exact q5
      ·simp at h
     ·simp at h
    ·simp at hio
   ·rename_i r v i j t0 ws
    simp only at hio
    split at hio
    ·rename_i s0 T0 xs0 ids hl0 hi0
     simp only[Option.some.injEq]at hio;subst hio
     split at h
     ·rename_i t' ys vs'
      split at h
      ·rename_i s T xs hl
       obtain⟨xs',h,rfl,g3,g4⟩:=cast_some h
       obtain⟨hn,h⟩:=chk_some h
       obtain⟨e,he,h⟩:=bnd_some h
       obtain⟨e',o,h,u1,u2⟩:=setCX_ok T j t' xs' e _ h
       obtain⟨a,b,c'⟩:=set_tree (xs':=lSet xs i e') hX hS hl (by simp [lSet])
       obtain⟨X',R',q1,q2,q3,q4,q5,q6,q7⟩:=ioX_ok W vs' ids k a c' hW' hi0 h
       obtain⟨e1,t1,ws1,rfl⟩:=rf_cd hcd
       obtain⟨y',y1,y2⟩:=hS.roots r s _ hl _ rfl
       have hg:get R r=some (.tr T.n (xs.map (encT T))):=by
        cases y' with
        | tr _ _=>obtain⟨rfl,rfl⟩:=y2;exact y1
        | _=>exact y2.elim
       refine⟨X',R',q1,q2,b.trans q3,q4, ?_,same_set.trans q6 b q3,q7⟩
       have he':xs[i]? = some e:=by simpa [idx] using he
       have hup:updNode (xs.map (encT T)) [(i,j)] (fun _=>ys.map (encT t'))=(lSet xs i e').map (encT T):=by
        simp only[updNode,List.getElem?_map,he',Option.map_some,u2,lSet,List.map_set,u1,g3]
       simp only[List.map_cons,toV,e1,ioG,backIo,hg,hup]
       exact q5
      ·simp at h
     ·simp at h
    ·simp at hio
   ·rename_i nn
    simp only at hio
    split at h
    ·rename_i v vs'
     obtain⟨X',R',q1,q2,q3,q4,q5,q6,q7⟩:=ioX_ok W vs' io k hX hS hW' hio h
     refine⟨X',R',q1,q2,q3,q4, ?_,q6,q7⟩
     rcases hcd with ⟨v',h1,_⟩|⟨n',h1,rfl⟩|⟨t,ws,r,p,lo,l,h1,_⟩
     ·simp [cC]at h1
     ·simp only[List.map_cons,toV,cC,backIo];exact q5
     ·simp [cC]at h1
    ·simp at h
   ·rename_i h1 h2 h3
    split at hio
    ·exact (h1 _ rfl).elim
    ·exact (h2 _ _ _ _ _ _ rfl).elim
    ·exact (h3 _ rfl).elim
    ·split at hio
     ·rename_i hlf
      obtain⟨v,h1,rfl⟩:=leaf_cd hlf hcd
      exact plain io hio h fun o=>by cases o<;>simp only[toV,h1,backIo]
     ·simp at hio
theorem set_box {E:List (Nat×V)}{A R:List (Nat×Root)}{n f r s:Nat}{es es':List (Nat×XC)}{bs':List C}(hX:XOk X) (hS:SimX X ⟨E,A++R,n,f⟩) (hA:get A r=none) (hl:lk X.roots r=some (s,.bx es)) (hc:∀(c:Nat) (e:Nat×XC),es'[c]? = some e->(e.1=X.stamp\/es[c]? = some e)/\okC X.roots X.next X.stamp e.2) (hw:All2 WkC bs' (es'.map fun e=>cC X.roots e.2)) :
  XOk (X.setR r (.bx es'))/\Ext X (X.setR r (.bx es'))/\SimX (X.setR r (.bx es')) ⟨E,A++put R r (.bx bs'),n,f⟩/\Same X (X.setR r (.bx es')) (A++R) (A++put R r (.bx bs')):=by
 obtain⟨a,b⟩:=chg_ok hX (x:=.bx es') (Nat.le_refl _) (hX.ids r s _ hl).1 (by
  intro cs h c e he
  simp only[XR.bx.injEq]at h;subst h
  obtain⟨h1,h2⟩:=hc c e he
  exact⟨h1.imp id fun h=>⟨s,es,hl,h⟩,h2⟩)
 have key:∀c',okC X.roots X.next X.stamp c'->cC ((r,X.stamp,.bx es')::X.roots) c'=.un\/cC ((r,X.stamp,.bx es')::X.roots) c'=killCs [] (cC X.roots c'):=fun c' hc=>cC_cons (.inr (.inr (.inl ⟨_,_,_,rfl,hl⟩))) hc
 have e:=hS.next
 simp only at e
 subst e
 have hgo:∀q,r≠q->get (A++put R r (.bx bs')) q=get (A++R) q:=by
  intro q hq
  rw[get_append,get_append,get_put,if_neg hq]
 refine⟨a,b, ?_, ?_⟩
 ·refine sim_step (X':=X.setR r (.bx es')) (ks:=[]) (roots:=A++put R r (.bx bs')) hX hS rfl rfl key ?_
  intro q s' z hq
  simp only[XSt.setR]at hq
  rw[lk_cons]at hq
  split at hq
  ·rename_i e
   simp only at e;subst e
   simp only[Option.some.injEq,Prod.mk.injEq]at hq
   obtain⟨_,rfl⟩:=hq
   right
   intro y hy
   simp only[cRt,Option.some.injEq]at hy;subst hy
   refine⟨.bx bs',by rw[get_append,hA,get_put,if_pos rfl], ?_⟩
   have w0:All2 WkC bs' ((es'.map (·.2)).map (cC X.roots)):=by rw[List.map_map];exact hw
   have w1:=wkCs_kill (ks:=[]) key (fun c hc'=>by
    obtain⟨e,he,rfl⟩:=List.mem_map.1 hc'
    obtain⟨i,hi⟩:=List.getElem?_of_mem he
    exact (hc i e hi).2) w0
   have e3:bs'.map (killCs [])=bs':=by
    have:killCs []=fun c=>c:=by funext c;rfl
    rw[this];simp
   rw[e3,List.map_map]at w1
   exact w1
  ·rename_i e
   left
   exact⟨hq,by rw[omap_nil];exact hgo q e⟩
 ·intro q s' z hq hs
  simp only[XSt.setR]at hq
  rw[lk_cons]at hq
  split at hq
  ·simp only[Option.some.injEq,Prod.mk.injEq]at hq;omega
  ·rename_i e;exact hgo q e
theorem isRx_T:∀{t:Ty}{x:t.den}{j:Nat}{d:D}{ty:Ty}{m:M},noHT t=true->(encT t x)[j]? = some d->(cts t)[j]? = some ty->isRx (m,d)=(match m,isLT ty with|.rx,true=>true|_,_=>false)
 | .I _,x,0,d,ty,m,hn,h,ht=>by simp [encT,cts]at h ht;subst h ht;cases m<;>rfl
 | .Y,x,0,d,ty,m,hn,h,ht=>by simp [encT,cts]at h ht;subst h ht;cases m<;>rfl
 | .B,x,0,d,ty,m,hn,h,ht=>by simp [encT,cts]at h ht;subst h ht;cases m<;>rfl
 | .S,x,0,d,ty,m,hn,h,ht=>by simp [encT,cts]at h ht;subst h ht;cases m<;>rfl
 | .L _,x,0,d,ty,m,hn,h,ht=>by simp [encT,cts]at h ht;subst h ht;cases m<;>rfl
 | .I _,x,j+1,d,ty,m,hn,h,ht=>by simp [encT]at h
 | .Y,x,j+1,d,ty,m,hn,h,ht=>by simp [encT]at h
 | .B,x,j+1,d,ty,m,hn,h,ht=>by simp [encT]at h
 | .S,x,j+1,d,ty,m,hn,h,ht=>by simp [encT]at h
 | .L _,x,j+1,d,ty,m,hn,h,ht=>by simp [encT]at h
 | .H _,x,j,d,ty,m,hn,h,ht=>by simp [noHT]at hn
 | .P a b,x,j,d,ty,m,hn,h,ht=>by
  have hn1:noHT a=true:=by
   simp only[noHT]at hn;split at hn
   ·assumption
   ·cases hn
  have hn2:noHT b=true:=by
   simp only[noHT,hn1]at hn;exact hn
  simp only[encT,cts,appT_eq]at h ht
  by_cases hj:j<a.n
  ·rw[List.getElem?_append_left (by rw[encT_len];exact hj)]at h
   rw[List.getElem?_append_left (by rw[cts_len];exact hj)]at ht
   exact isRx_T hn1 h ht
  ·rw[List.getElem?_append_right (by rw[encT_len];omega),encT_len]at h
   rw[List.getElem?_append_right (by rw[cts_len];omega),cts_len]at ht
   exact isRx_T hn2 h ht
theorem mix_ok2 {R:XRs}{nx st:Nat}:∀(ms:List M) (ts:List Ty) (ds:List D) (es:List (Nat×XC)) (bs:List C) (ys:List XC) (us:List C),(∀(j:Nat) (m:M) (d:D) (ty:Ty),ms[j]? = some m->ds[j]? = some d->ts[j]? = some ty->isRx (m,d)=(match m,isLT ty with|.rx,true=>true|_,_=>false))->ms.length=ds.length->ds.length=ts.length->es.length=ds.length ->
  All2 WkC bs (es.map fun e=>cC R e.2)->All2 WkC us (ys.map (cC R))->(∀e∈es,okC R nx st e.2)->(∀y∈ys,okC R nx st y) ->
  All2 WkC (mixCs (ms.zip ds) bs us) ((mixX st ms ts es ys).map fun e=>cC R e.2)/\(mixX st ms ts es ys).length=ms.length/\∀(j:Nat) (e:Nat×XC),(mixX st ms ts es ys)[j]? = some e->(e.1=st\/es[j]? = some e)/\okC R nx st e.2
 | [],[],[],[],[],ys,us,_,_,_,_,_,_,_,_=>⟨trivial,rfl,by simp [mixX]⟩
 | m::ms,t::ts,d::ds,e::es,b::bs,ys,us,hr,h1,h2,h3,hb,hu,ho,hy=>by
  simp only[List.length_cons,Nat.add_right_cancel_iff]at h1 h2 h3
  have hr0:=hr 0 m d t rfl rfl rfl
  have hr':∀(j:Nat) (m:M) (d:D) (ty:Ty),ms[j]? = some m->ds[j]? = some d->ts[j]? = some ty->isRx (m,d)=(match m,isLT ty with|.rx,true=>true|_,_=>false):=fun j m d ty a b c=>hr (j+1) m d ty (by simpa using a) (by simpa using b) (by simpa using c)
  have ho':=fun e he=>ho e (List.mem_cons_of_mem _ he)
  have old:isRx (m,d)=true->All2 WkC (mixCs ((m::ms).zip (d::ds)) (b::bs) us) (((e::mixX st ms ts es ys)).map fun e=>cC R e.2)/\(e::mixX st ms ts es ys).length=(m::ms).length/\∀(j:Nat) (e':Nat×XC),(e::mixX st ms ts es ys)[j]? = some e'->(e'.1=st\/(e::es)[j]? = some e')/\okC R nx st e'.2:=by
   intro hx
   obtain⟨q1,q2,q3⟩:=mix_ok2 ms ts ds es bs ys us hr' h1 h2 h3 hb.2 hu ho' hy
   refine⟨?_,by simp [q2], ?_⟩
   ·simp only[List.zip_cons_cons,mixCs,hx,if_true,List.map_cons]
    exact⟨hb.1,q1⟩
   ·intro j e' he
    cases j with
    | zero=>simp only[List.getElem?_cons_zero,Option.some.injEq]at he;subst he;exact⟨.inr rfl,ho _ List.mem_cons_self⟩
    | succ j=>simpa using q3 j e' (by simpa using he)
  have new:isRx (m,d)=false->All2 WkC (mixCs ((m::ms).zip (d::ds)) (b::bs) us) ((match ys with|y::ys=>(st,y)::mixX st ms ts es ys|[]=>e::mixX st ms ts es []:List (Nat×XC)).map fun e=>cC R e.2)/\(match ys with|y::ys=>(st,y)::mixX st ms ts es ys|[]=>e::mixX st ms ts es []).length=(m::ms).length/\∀(j:Nat) (e':Nat×XC),(match ys with|y::ys=>(st,y)::mixX st ms ts es ys|[]=>e::mixX st ms ts es [])[j]? = some e'->(e'.1=st\/(e::es)[j]? = some e')/\okC R nx st e'.2:=by
   intro hx
   cases ys with
   | nil =>
    cases us with
    | cons u us=>exact hu.elim
    | nil =>
     obtain⟨q1,q2,q3⟩:=mix_ok2 ms ts ds es bs [] [] hr' h1 h2 h3 hb.2 trivial ho' (by simp)
     refine⟨?_,by simp [q2], ?_⟩
     ·simp only[List.zip_cons_cons,mixCs,hx,Bool.false_eq_true,if_false,List.map_cons]
      exact⟨hb.1,q1⟩
     ·intro j e' he
      cases j with
      | zero=>simp only[List.getElem?_cons_zero,Option.some.injEq]at he;subst he;exact⟨.inr rfl,ho _ List.mem_cons_self⟩
      | succ j=>simpa using q3 j e' (by simpa using he)
   | cons y ys =>
    cases us with
    | nil=>exact hu.elim
    | cons u us =>
     obtain⟨q1,q2,q3⟩:=mix_ok2 ms ts ds es bs ys us hr' h1 h2 h3 hb.2 hu.2 ho' (fun z hz=>hy z (List.mem_cons_of_mem _ hz))
     refine⟨?_,by simp [q2], ?_⟩
     ·simp only[List.zip_cons_cons,mixCs,hx,Bool.false_eq_true,if_false,List.map_cons]
      exact⟨hu.1,q1⟩
     ·intro j e' he
      cases j with
      | zero=>simp only[List.getElem?_cons_zero,Option.some.injEq]at he;subst he;exact⟨.inl rfl,hy _ List.mem_cons_self⟩
      | succ j=>simpa using q3 j e' (by simpa using he)
  cases m with
  | rx =>
   cases hT:isLT t with
   | true =>
    simp only[hT]at hr0
    simp only[mixX,hT]
    exact old hr0
   | false =>
    simp only[hT]at hr0
    simp only[mixX,hT]
    exact new hr0
  | _=>simp only[mixX];exact new hr0
 | [],_::_,ds,_,_,_,_,_,h1,h2,_,_,_,_,_=>by rw[<-h1]at h2;simp at h2
 | _::_,[],ds,_,_,_,_,_,h1,h2,_,_,_,_,_=>by rw[List.length_nil]at h2;rw[h2]at h1;simp at h1
 | [],[],_::_,_,_,_,_,_,h1,_,_,_,_,_,_=>by simp at h1
 | _::_,_::_,[],_,_,_,_,_,h1,_,_,_,_,_,_=>by simp at h1
 | [],[],[],_::_,_,_,_,_,_,_,h3,_,_,_,_=>by simp at h3
 | _::_,_::_,_::_,[],_,_,_,_,_,_,h3,_,_,_,_=>by simp at h3
 | [],[],[],[],_::_,_,_,_,_,_,_,hb,_,_,_=>hb.elim
 | _::_,_::_,_::_,_::_,[],_,_,_,_,_,_,hb,_,_,_=>hb.elim
end
end Go.Vs
namespace Go.Vs
variable [Glb]
section
variable {β:Type} {X:XSt} {S:St} {out:β} {P:Program}
def GRel:List GArg->List GC->List V->Prop
 | [],[],[]=>True
 | a::as,g::gs,y::ys=>g.a=a/\a.ms.length=a.t.n/\(match a.ptr with
  | true=>∃r c,g.at? = some (r,c)/\y=.a (.c (.pb r c))
  | false=>g.at? = none)/\GRel as gs ys
 | _,_,_=>False
theorem grel_of (hS:SimX X S):∀(as:List GArg) (vs:List XV) (ys:List V) (gs:List GC),All2 (fun y v=>WkV y (cV X.roots v)/\okV X.roots X.next X.stamp v) ys vs->gather X as vs=some gs->GRel as gs ys
 | [],[],[],gs,_,h=>by simp only[gather,Option.some.injEq]at h;subst h;trivial
 | a::as,v::vs,y::ys,gs,hw,h=>by
  simp only[gather]at h
  split at h
  ·rename_i g gs' h1 h2
   split at h
   ·rename_i hb
    simp only[Option.some.injEq]at h;subst h
    simp only[Bool.and_eq_true,lenL_eq]at hb
    have ih:=grel_of hS as vs ys gs' hw.2 h2
    unfold gather1 at h1
    split at h1
    ·rename_i c hp hag
     simp only[Option.some.injEq]at h1;subst h1
     exact⟨rfl,Nat.eq_of_beq_eq_true hb.2,by simp only[hp],ih⟩
    ·rename_i c hp hag
     simp only[Option.some.injEq]at h1;subst h1
     exact⟨rfl,Nat.eq_of_beq_eq_true hb.2,by simp only[hp],ih⟩
    ·rename_i r c hp
     split at h1
     ·rename_i s es hle
      split at h1
      ·simp only[Option.some.injEq]at h1;subst h1
       refine⟨rfl,Nat.eq_of_beq_eq_true hb.2, ?_,ih⟩
       simp only[hp]
       refine⟨r,c,rfl, ?_⟩
       have:=hw.1.1
       simp only[cV,cA,cC,hle]at this
       exact this.c (by simp)
      ·simp at h1
     ·simp at h1
    ·simp at h1
   ·simp at h
  ·simp at h
 | [],_::_,_,_,_,h=>by simp [gather]at h
 | _::_,[],_,_,_,h=>by simp [gather]at h
 | [],[],_::_,_,hw,_=>hw.elim
 | _::_,_::_,[],_,hw,_=>hw.elim
theorem backBx_val {R:List (Nat×Root)}{y:V}{ys:List V}{ag:Bool}{l:List (M×D)}{as:List Arg}{o:List (List D)}{us:List C}:backBx R (y::ys) (.val ag l::as) o us=backBx R ys as o us:=by
 conv=>lhs;unfold backBx
 split
 ·simp_all
 ·simp_all
 ·simp_all
 ·simp_all
  rename_i hx
  exact absurd rfl (hx y ys _ as rfl rfl rfl)
theorem bxX_ok:∀(as:List GArg) (gs:List GC) (ysV:List V) (x:Tp (argTys as)) (vs:List Sg) (cells:List XC) (us:List C){X X':XSt}{E:List (Nat×V)}{A R:List (Nat×Root)}{n f:Nat},XOk X->SimX X ⟨E,A++R,n,f⟩->GRel as gs ysV->(∀r∈bxZ gs,get A r=none)->vs.map (·.1)=bxTys as ->
  All2 WkC us (cells.map (cC X.roots))->(∀c∈cells,okC X.roots X.next X.stamp c)->bxX gs cells X=some X' ->
  ∃R',backBx R ysV (argsG as x) (bxG as vs) us=some R'/\XOk X'/\Ext X X'/\SimX X' ⟨E,A++R',n,f⟩/\Same X X' (A++R) (A++R')/\X'.env=X.env
 | [],[],[],x,vs,cells,us,X,X',E,A,R,n,f,hX,hS,_,_,_,_,_,h=>by
  simp only[bxX,Option.some.injEq]at h;subst h
  exact⟨R,rfl,hX,Ext.refl X,hS,Same.refl X _,rfl⟩
 | a::as,g::gs,y::ysV,x,vs,cells,us,X,X',E,A,R,n,f,hX,hS,hg,hA,hv,hw,ho,h=>by
  obtain⟨rfl,hms,hp,hg⟩:=hg
  simp only[bxX]at h
  cases hptr:g.a.ptr with
  | false =>
   simp only[hptr]at hp
   simp only[hp]at h
   simp only[bxZ,hp]at hA
   simp only[bxTys,hptr]at hv
   obtain⟨R',q1,q2⟩:=bxX_ok as gs ysV (Tp.tl _ _ x) vs cells us hX hS hg hA hv hw ho h
   refine⟨R', ?_,q2⟩
   simp only[argsG,mkG,hptr,bxG,backBx_val]
   exact q1
  | true =>
   simp only[hptr]at hp
   obtain⟨r,c,hat,rfl⟩:=hp
   simp only[hat]at h
   simp only[bxZ,hat]at hA
   split at h
   ·rename_i s es hl
    split at h
    ·rename_i hb
     obtain⟨hb,hnH⟩:=Bool.and_eq_true_iff.1 hb
     have hb:=Nat.le_of_ble_eq_true hb
     rw[lenL_eq]at hb
     obtain⟨bs,g1,g2⟩:=box_sim hS hl
     have hAr:=hA r List.mem_cons_self
     have hR:get R r=some (.bx bs):=by
      simp only[get_append,hAr]at g1;exact g1
     have hbl:=g2.length
     rw[List.length_map]at hbl
     have hen:=encT_len g.a.t (Tp.hd _ _ x)
     have hlen:(g.a.ms.zip (encT g.a.t (Tp.hd _ _ x))).length=g.a.ms.length:=by rw[List.length_zip];omega
     obtain⟨m1,m2,m3⟩:=mix_ok2 (R:=X.roots) (nx:=X.next) (st:=X.stamp) g.a.ms (cts g.a.t) (encT g.a.t (Tp.hd _ _ x)) ((es.drop c).take g.a.ms.length) ((bs.drop c).take g.a.ms.length) (cells.take (optN g.a.o)) (us.take (optN g.a.o))
      (fun j m d ty _ hd ht=>isRx_T hnH hd ht) (by omega) (by rw[hen,cts_len]) (by simp;omega)
      (by have:=wk_take (n:=g.a.ms.length) (wk_drop (n:=c) g2);rw[List.map_take,List.map_drop];exact this)
      (by rw[List.map_take];exact wk_take hw)
      (fun e he=>(hX.box r s es hl e (List.mem_of_mem_drop (List.mem_of_mem_take he))).2)
      (fun y hy=>ho y (List.mem_of_mem_take hy))
     rw[lenL_eq]at h
     obtain⟨b1,b2,b3,b4⟩:=set_box (es':=es.take c++(mixX X.stamp g.a.ms (cts g.a.t) ((es.drop c).take g.a.ms.length) (cells.take (optN g.a.o))++es.drop (c+g.a.ms.length))) (bs':=bs.take c++(mixCs (g.a.ms.zip (encT g.a.t (Tp.hd _ _ x))) ((bs.drop c).take g.a.ms.length) (us.take (optN g.a.o))++bs.drop (c+g.a.ms.length))) hX hS hAr hl (by
      intro j e hj
      have hlt:(es.take c).length=c:=by simp;omega
      by_cases h1:j<c
      ·rw[List.getElem?_append_left (by omega),List.getElem?_take,if_pos h1]at hj
       exact⟨.inr hj,(hX.box r s es hl e (List.mem_of_getElem? hj)).2⟩
      ·rw[List.getElem?_append_right (by omega),hlt]at hj
       by_cases h2:j-c<g.a.ms.length
       ·rw[List.getElem?_append_left (by omega)]at hj
        obtain⟨q1,q2⟩:=m3 _ e hj
        refine⟨q1.imp id fun h=>?_,q2⟩
        rw[List.getElem?_take,if_pos h2,List.getElem?_drop]at h
        rwa [show c+(j-c)=j by omega]at h
       ·rw[List.getElem?_append_right (by omega),m2,List.getElem?_drop]at hj
        rw[show c+g.a.ms.length+(j-c-g.a.ms.length)=j by omega]at hj
        exact⟨.inr hj,(hX.box r s es hl e (List.mem_of_getElem? hj)).2⟩) (by
      rw[List.map_append,List.map_append,List.map_take,List.map_drop]
      exact wk_app (wk_take g2) (wk_app m1 (wk_drop g2)))
     -- the rest
     have key:∀c',okC X.roots X.next X.stamp c'->cC (X.setR r (.bx (es.take c++(mixX X.stamp g.a.ms (cts g.a.t) ((es.drop c).take g.a.ms.length) (cells.take (optN g.a.o))++es.drop (c+g.a.ms.length))))).roots c'=.un\/cC (X.setR r (.bx (es.take c++(mixX X.stamp g.a.ms (cts g.a.t) ((es.drop c).take g.a.ms.length) (cells.take (optN g.a.o))++es.drop (c+g.a.ms.length))))).roots c'=killCs [] (cC X.roots c'):=fun c' hc=>cC_cons (.inr (.inr (.inl ⟨_,_,_,rfl,hl⟩))) hc
     have hw2:=wkCs_kill (ks:=[]) key (ys:=us.drop (optN g.a.o)) (cs:=cells.drop (optN g.a.o)) (fun c hc=>ho c (List.mem_of_mem_drop hc)) (by rw[List.map_drop];exact wk_drop hw)
     have e3:(us.drop (optN g.a.o)).map (killCs [])=us.drop (optN g.a.o):=by
      have:killCs []=fun c=>c:=by funext c;rfl
      rw[this];simp
     rw[e3]at hw2
     have ho2:∀c'∈cells.drop (optN g.a.o),okC (X.setR r (.bx (es.take c++(mixX X.stamp g.a.ms (cts g.a.t) ((es.drop c).take g.a.ms.length) (cells.take (optN g.a.o))++es.drop (c+g.a.ms.length))))).roots (X.setR r (.bx (es.take c++(mixX X.stamp g.a.ms (cts g.a.t) ((es.drop c).take g.a.ms.length) (cells.take (optN g.a.o))++es.drop (c+g.a.ms.length))))).next (X.setR r (.bx (es.take c++(mixX X.stamp g.a.ms (cts g.a.t) ((es.drop c).take g.a.ms.length) (cells.take (optN g.a.o))++es.drop (c+g.a.ms.length))))).stamp c':=fun c' hc=>okC.ext b2.next b2.stamp b2.roots (ho c' (List.mem_of_mem_drop hc))
     cases hoo:g.a.o with
     | none =>
      simp only[bxTys,hptr,hoo,optT,appT]at hv
      simp only[hoo]at h hw2 ho2 b1 b2 b3 b4
      obtain⟨R',q1,q2,q3,q4,q5,q6⟩:=bxX_ok as gs ysV (Tp.tl _ _ x) vs _ _ b1 b3 hg (fun q hq=>hA q (List.mem_cons_of_mem _ hq)) hv hw2 ho2 h
      refine⟨R', ?_,q2,b2.trans q3,q4,b4.trans q5 b2 q3,q6⟩
      simp only[argsG,mkG,hptr,bxG,hoo,backBx,hR,hlen,List.length_nil]
      exact q1
     | some ot =>
      simp only[bxTys,hptr,hoo,optT,appT]at hv
      cases vs with
      | nil=>simp at hv
      | cons v vs =>
       simp only[List.map_cons,List.cons.injEq]at hv
       simp only[hoo]at h hw2 ho2 b1 b2 b3 b4
       obtain⟨R',q1,q2,q3,q4,q5,q6⟩:=bxX_ok as gs ysV (Tp.tl _ _ x) vs _ _ b1 b3 hg (fun q hq=>hA q (List.mem_cons_of_mem _ hq)) hv.2 hw2 ho2 h
       refine⟨R', ?_,q2,b2.trans q3,q4,b4.trans q5 b2 q3,q6⟩
       have hn:(encS v).length=optN (some ot):=by simp only[encS,encT_len,hv.1,optN]
       simp only[argsG,mkG,hptr,bxG,hoo,backBx,hR,hlen,hn]
       exact q1
    ·simp at h
   ·simp at h
 | [],_::_,_,_,_,_,_,_,_,_,_,_,_,_,_,_,h,_,_,_,_,_=>h.elim
 | _::_,[],_,_,_,_,_,_,_,_,_,_,_,_,_,_,h,_,_,_,_,_=>h.elim
 | [],[],_::_,_,_,_,_,_,_,_,_,_,_,_,_,_,h,_,_,_,_,_=>h.elim
 | _::_,_::_,[],_,_,_,_,_,_,_,_,_,_,_,_,_,h,_,_,_,_,_=>h.elim
theorem bxX_c {c:XC}:∀(gs:List GC) (ys:List XC) (Z Z':XSt) (nx st:Nat),okC Z.roots nx st c->st<=Z.stamp->nx<=Z.next->bxX gs ys Z=some Z'->cC Z'.roots c=.un\/cC Z'.roots c=cC Z.roots c
 | [],ys,Z,Z',nx,st,_,_,_,h=>by simp only[bxX,Option.some.injEq]at h;subst h;exact .inr rfl
 | g::gs,ys,Z,Z',nx,st,ho,hst,hnx,h=>by
  simp only[bxX]at h
  split at h
  ·rename_i r c0 hat
   split at h
   ·rename_i s es hl
    split at h
    ·have ho':okC Z.roots Z.next Z.stamp c:=okC.ext hnx hst (fun _ _ _ h _=>h) ho
     have old:∀es' q s z,lk ((r,Z.stamp,XR.bx es')::Z.roots) q=some (s,z)->s<Z.stamp->lk Z.roots q=some (s,z):=by
      intro es' q s z hl hs
      rw[lk_cons]at hl
      split at hl
      ·simp only[Option.some.injEq,Prod.mk.injEq]at hl;omega
      ·exact hl
     rcases bxX_c gs _ (Z.setR r _) Z' Z.next Z.stamp (okC.ext (Nat.le_refl _) (Nat.le_refl _) (old _) ho') (Nat.le_succ _) (Nat.le_refl _) h with q|q
     ·exact .inl q
     ·rcases cC_cons (.inr (.inr (.inl ⟨_,_,_,rfl,hl⟩))) ho' with w|w
      ·exact .inl (q.trans w)
      ·exact .inr (q.trans w)
    ·simp at h
   ·simp at h
  ·exact bxX_c gs _ _ _ nx st ho hst hnx h
theorem tcellsS_enc:∀vs:List Sg,(tcellsS vs).map encD=vs.flatMap encS
 | []=>rfl
 | v::vs=>by simp only[tcellsS,List.map_append,tcells_enc,tcellsS_enc vs,List.flatMap_cons,encS]
theorem resG_flat:∀(rs:List (Bool×Ty)) (vs:List Sg),vs.length=rs.length->(resG rs vs).flatMap (·.2)=vs.flatMap encS
 | [],[],_=>rfl
 | r::rs,v::vs,h=>by simp only[resG,List.flatMap_cons,resG_flat rs vs (by simpa using h)]
 | [],_::_,h=>by simp at h
 | _::_,[],h=>by simp at h
theorem bxG_flat:∀(as:List GArg) (vs:List Sg),vs.map (·.1)=bxTys as->(bxG as vs).flatten=vs.flatMap encS
 | [],vs,h=>by simp only[bxTys,List.map_eq_nil_iff]at h;subst h;rfl
 | a::as,vs,h=>by
  simp only[bxTys]at h
  cases hp:a.ptr with
  | false=>simp only[hp]at h;simp only[bxG,hp];exact bxG_flat as vs h
  | true =>
   simp only[hp]at h
   cases ho:a.o with
   | none=>simp only[ho,optT,appT]at h;simp only[bxG,hp,ho,List.flatten_cons,List.nil_append];exact bxG_flat as vs h
   | some t =>
    simp only[ho,optT,appT]at h
    cases vs with
    | nil=>simp at h
    | cons v vs =>
     simp only[List.map_cons,List.cons.injEq]at h
     simp only[bxG,hp,ho,List.flatten_cons,List.flatMap_cons,bxG_flat as vs h.2]
theorem resAs_wkG {R:XRs}:∀(rs:List (Bool×Ty)) (vs:List Sg) (us:List C) (cs:List XC),vs.map (·.1)=resTys rs->All2 WkC us (cs.map (cC R))->(∀(l:Nat),True)->(vs.flatMap encS).length<=cs.length->All2 WkA (newRes (resG rs vs) us) ((resAs rs cs).map (cA R))
 | [],_,_,_,_,_,_,_=>by cases ‹List Sg›<;>trivial
 | (ag,t)::rs,[],us,cs,h,_,_,_=>by simp [resTys]at h
 | (ag,t)::rs,v::vs,us,cs,h,hw,_,hl=>by
  simp only[List.map_cons,resTys,List.cons.injEq]at h
  have hn:(encS v).length=t.n:=by rw[encS,encT_len,h.1]
  simp only[resG,newRes,resAs,List.map_cons,hn]
  simp only[List.flatMap_cons,List.length_append,hn]at hl
  refine⟨?_, ?_⟩
  ·have ht:=wk_take (n:=t.n) hw
   rw[<-List.map_take]at ht
   cases ag with
   | true=>simp only[newA,if_true];exact ht
   | false =>
    simp only[newA,Bool.false_eq_true,if_false]
    match h1:us.take t.n,h2:cs.take t.n with
    | [],[]=>trivial
    | [u],[c]=>rw[h1,h2]at ht;exact ht.1
    | [],_::_=>rw[h1,h2]at ht;exact ht.elim
    | _::_,[]=>rw[h1,h2]at ht;exact ht.elim
    | [_],_::_::_=>rw[h1,h2]at ht;exact ht.2.elim
    | _::_::_,[_]=>rw[h1,h2]at ht;exact ht.2.elim
    | _::_::_,_::_::_=>trivial
  ·have hd:=wk_drop (n:=t.n) hw
   rw[<-List.map_drop]at hd
   exact resAs_wkG rs vs _ _ h.2 hd (fun _=>trivial) (by rw[List.length_drop];omega)
theorem callGF_ok (hX:XOk X) (hS:SimX X S){as:List GArg}{rs:List (Bool×Ty)}{F:Tp (argTys as)->Option (Tp (outTys as rs))}{C:List Value->World->(Ending->World->Prop)->Prop}(hC:∀x y,F x=some y->RunsC C (argsG as x) (outG as rs (spread _ y))){vs:List XV}{us:List V}(hargs:All2 (fun y v=>WkV y (cV X.roots v)/\okV X.roots X.next X.stamp v) us vs){k:XV->XSt->Option β}(h:callGF X as rs F vs k=some out):ClT X S (fun K=>callOkC C S us K) k out:=by
 have hnx:S.next=X.next:=hS.next
 unfold callGF at h
 split at h
 ·rename_i gs hg
  split at h
  ·rename_i ow io how hio
   split at h
   ·rename_i hc
    simp only[Bool.and_eq_true]at hc
    obtain⟨hn1,hn2,hd1,hd2⟩:=hc
    have hn1:=nodupN_ok hn1
    have hn2:=nodupN_ok hn2
    have hd1:=disj_ok hd1
    have hd2:=disj_ok hd2
    obtain⟨h,hwh⟩:=wholeX_ok _ h
    obtain⟨x,h,hf,hW,hz,hbx⟩:=gather_ok hX hS as _ _ gs _ hargs hg h
    obtain⟨y,hy,h⟩:=bnd_some h
    rw[<-hz]at how hio hd2 hwh h
    have hWcd:∀w∈allW as gs x,CD X.roots w.2.1 w.2.2:=fun w hw=>(hW w hw).1
    -- what is taken
    obtain⟨o1,o2⟩:=owZ_fl (allW as gs x) hWcd
    obtain⟨rt,t1,t2⟩:=takeAll_sim hS _ _ ow S.roots o2 how hn1 (fun _ _=>rfl)
    rw[<-o1]at t1
    obtain⟨d1,d2,d3⟩:=delRs_ok ow hX hS (ownIds_lt hX how)
    obtain⟨v1,v2,v3,v4⟩:=delRs_env ow X
    have d4:SimX (X.delRs ow) ⟨S.env,rt,S.next,S.fix⟩:=by
     refine sim_roots (R:=S.roots) d3 ?_
     intro r s z hl hx
     by_cases hm:r∈ow
     ·obtain⟨s',hg'⟩:=(delRs_lk ow X r).1 hm
      rw[hl]at hg'
      simp only[Option.some.injEq,Prod.mk.injEq]at hg'
      exact (hx hg'.2).elim
     ·rw[t2 r,if_neg hm]
    have d5:Same X (X.delRs ow) S.roots rt:=by
     intro r s z hl hs
     by_cases hm:r∈ow
     ·have key:∀(l:List Nat) (Y:XSt),r∈l->∀s x,lk (Y.delRs l).roots r=some (s,x)->Y.stamp<=s:=by
       intro l
       induction l with
       | nil=>intro Y h;simp at h
       | cons q l ih =>
        intro Y h s x hl
        by_cases hq:r∈l
        ·have:=ih (Y.setR q .gone) hq s x hl
         have e:(Y.setR q .gone).stamp=Y.stamp+1:=rfl
         omega
        ·have hq':=(List.mem_cons.1 h).resolve_right hq
         subst hq'
         have h2:lk ((Y.setR r .gone).delRs l).roots r=some (s,x):=hl
         rw[(delRs_lk l (Y.setR r .gone) r).2 hq]at h2
         simp only[XSt.setR]at h2
         rw[lk_cons,if_pos rfl]at h2
         simp only[Option.some.injEq,Prod.mk.injEq]at h2
         omega
      have:=key ow X hm s z hl
      omega
     ·rw[t2 r,if_neg hm]
    have hseen:=seen_ok (hb:=bxZ gs) hS hWcd hio t2 hd1 hd2 hwh
    -- what is written
    obtain⟨X2,r1,h,i1,i2,i3,i4,i5,i6⟩:=ioX_ok (X0:=X) (allW as gs x) _ io _ d1 d4 hWcd hio h
    have hnext2:X2.next=X.next:=by rw[<-hnx];exact i3.next.symm
    -- what is new
    have i3':SimX X2 ⟨S.env,r1,X2.next,S.fix⟩:=⟨rfl,i3.fix,i3.env,i3.roots⟩
    obtain⟨n1,n2,n3,n4,n5,n6,n7⟩:=newXs_ok (tcellsS ((spread _ y).take (lenL rs)++((spread _ y).drop (lenL rs)).drop (lenL (ioTys as)))) i1 i3'
    split at h
    ·rename_i X4 hb
     -- lengths and types of what comes out
     have htys:=spread_tys _ y
     have hT:outTys as rs=resTys rs++(ioTys as++bxTys as):=by simp only[outTys,appT_eq]
     have hrl:(resTys rs).length=rs.length:=by
      have key:∀rs:List (Bool×Ty),(resTys rs).length=rs.length:=by
       intro rs;induction rs with
       | nil=>rfl
       | cons r rs ih=>simp only[resTys,List.length_cons,ih]
      exact key _
     have hres:((spread _ y).take (lenL rs)).map (·.1)=resTys rs:=by
      rw[List.map_take,htys,hT,lenL_eq,<-hrl,List.take_left']
      rfl
     have hbxs:(((spread _ y).drop (lenL rs)).drop (lenL (ioTys as))).map (·.1)=bxTys as:=by
      rw[List.map_drop,List.map_drop,htys,hT,lenL_eq,lenL_eq,<-hrl,List.drop_left' rfl,List.drop_left' rfl]
     have hresl:((spread _ y).take (lenL rs)).length=rs.length:=by rw[<-hrl,<-hres,List.length_map]
     generalize hvr:(spread _ y).take (lenL rs)=vr at *
     generalize hvb:((spread _ y).drop (lenL rs)).drop (lenL (ioTys as))=vb at *
     have hcells:(tcellsS (vr++vb)).map encD=(resG rs vr).flatMap (·.2)++(bxG as vb).flatten:=by
      rw[tcellsS_enc,List.flatMap_append,resG_flat _ _ hresl,bxG_flat _ _ hbxs]
     rw[hcells,hnext2,<-hnx]at n4 n5 n6
     have hlenr:((resG rs vr).flatMap (·.2)).length=lenL (tcellsS vr):=by
      rw[resG_flat _ _ hresl,<-tcellsS_enc,List.length_map,lenL_eq]
     have grel:=grel_of hS as _ _ gs hargs hg
     have hbxlt:∀r∈bxZ gs,r<X.next:=by
      intro r hr
      have key:∀(as:List GArg) (vs:List XV) (gs:List GC),(∀v∈vs,okV X.roots X.next X.stamp v)->gather X as vs=some gs->r∈bxZ gs->r<X.next:=by
       intro as
       induction as with
       | nil =>
        intro vs gs _ hg hr
        cases vs with
        | nil=>simp only[gather,Option.some.injEq]at hg;subst hg;simp [bxZ]at hr
        | cons _ _=>simp [gather]at hg
       | cons a as ih =>
        intro vs gs hv hg hr
        cases vs with
        | nil=>simp [gather]at hg
        | cons v vs =>
         simp only[gather]at hg
         split at hg
         ·rename_i g gs' h1 h2
          split at hg
          ·simp only[Option.some.injEq]at hg;subst hg
           simp only[bxZ]at hr
           split at hr
           ·rename_i q c hat
            rcases List.mem_cons.1 hr with rfl|hr
            ·unfold gather1 at h1
             split at h1
             ·simp only[Option.some.injEq]at h1;subst h1;simp at hat
             ·simp only[Option.some.injEq]at h1;subst h1;simp at hat
             ·split at h1
              ·rename_i hle
               split at h1
               ·simp only[Option.some.injEq]at h1;subst h1
                simp only[Option.some.injEq,Prod.mk.injEq]at hat
                obtain⟨rfl,_⟩:=hat
                exact (hX.ids _ _ _ hle).1
               ·simp at h1
              ·simp at h1
             ·simp at h1
            ·exact ih vs gs' (fun v hv'=>hv v (List.mem_cons_of_mem _ hv')) h2 hr
           ·exact ih vs gs' (fun v hv'=>hv v (List.mem_cons_of_mem _ hv')) h2 hr
          ·simp at hg
         ·simp at hg
      refine key as _ gs ?_ hg hr
      intro v hv
      have kk:∀{us:List V} {vs:List XV},All2 (fun y v=>WkV y (cV X.roots v)/\okV X.roots X.next X.stamp v) us vs->v∈vs->okV X.roots X.next X.stamp v:=by
       intro us
       induction us with
       | nil=>intro vs ha hm;cases vs with
        | nil=>cases hm
        | cons _ _=>exact ha.elim
       | cons u us ih=>intro vs ha hm;cases vs with
        | nil=>exact ha.elim
        | cons w ws =>
         rcases List.mem_cons.1 hm with rfl|hm
         ·exact ha.1.2
         ·exact ih ha.2 hm
      exact kk hargs hv
     have hAnone:∀r,r<X.next->get (newCs ((resG rs vr).flatMap (·.2)++(bxG as vb).flatten) S.next).2.1 r=none:=by
      intro r hr
      cases hq:get (newCs ((resG rs vr).flatMap (·.2)++(bxG as vb).flatten) S.next).2.1 r with
      | none=>rfl
      | some z=>have:=((newCs_le _ _).2 _ (mem_of_get hq)).1;simp only at this;omega
     obtain⟨r2,b1,b2,b3,b4,b5,b6⟩:=bxX_ok as gs us x vb _ ((newCs ((resG rs vr).flatMap (·.2)++(bxG as vb).flatten) S.next).1.drop ((resG rs vr).flatMap (·.2)).length) n1 n5 grel (fun r hr=>hAnone r (hbxlt r hr)) hbxs
      (by rw[hlenr,List.map_drop];exact wk_drop n6) (fun c hc=>n7 c (List.mem_of_mem_drop hc)) hb
     -- together
     have hext:Ext X X4:=((d2.trans i2).trans n2).trans b3
     have hsameN:Same X2 (newXs (tcellsS (vr++vb)) X2).2 r1 ((newCs ((resG rs vr).flatMap (·.2)++(bxG as vb).flatten) S.next).2.1++r1):=by
      intro r s z hl hs
      have h0:=n2.roots r s z hl hs
      have:=(i1.ids r s z h0).1
      rw[get_append,hAnone r (by rw[<-hnext2];exact this)]
     have hsame:Same X X4 S.roots ((newCs ((resG rs vr).flatMap (·.2)++(bxG as vb).flatten) S.next).2.1++r2) :=
      ((d5.trans i5 d2 i2).trans hsameN (d2.trans i2) n2).trans b5 ((d2.trans i2).trans n2) b3
     have keyC:∀c,okC (newXs (tcellsS (vr++vb)) X2).2.roots (newXs (tcellsS (vr++vb)) X2).2.next (newXs (tcellsS (vr++vb)) X2).2.stamp c->cC X4.roots c=.un\/cC X4.roots c=killCs [] (cC (newXs (tcellsS (vr++vb)) X2).2.roots c):=fun c hc=>bxX_c gs _ _ _ _ _ hc (Nat.le_refl _) (Nat.le_refl _) hb
     refine⟨_,_,h,b2,hext, ?_, ?_,resV (newRes (resG rs vr) (newCs ((resG rs vr).flatMap (·.2)++(bxG as vb).flatten) S.next).1),[],(newCs ((resG rs vr).flatMap (·.2)++(bxG as vb).flatten) S.next).2.1++r2, ?_, ?_,⟨rfl,hsame⟩, ?_⟩
     ·exact okV.ext b3.next b3.stamp b3.roots (resX_okV (resAs_ok _ _ n7))
     ·rw[b6,n3,i6,v1]
     ·have w0:=resX_wk (resAs_wkG rs vr _ _ hres n6 (fun _=>trivial) (by
       rw[newXs_len]
       have:(vr.flatMap encS).length=(tcellsS vr).length:=by rw[<-tcellsS_enc,List.length_map]
       rw[this]
       have key:∀a b:List Sg,(tcellsS a).length<=(tcellsS (a++b)).length:=by
        intro a b
        induction a with
        | nil=>simp [tcellsS]
        | cons v a ih=>simp only[List.cons_append,tcellsS,List.length_append];omega
       exact key vr vb))
      have w1:=wkV_kill (ks:=[]) keyC (resX_okV (resAs_ok _ _ n7)) w0
      have e3:∀v:V,(∀f c,v≠.fn f c)->(∀r n,v≠.sb r n)->v.map (killCs [])=v:=by
       have hk:killCs []=fun c=>c:=by funext c;rfl
       have ha:A.map (fun c=>c)=fun x=>x:=by funext x;cases x<;>simp [A.map]
       intro v h1 h2
       rw[hk]
       cases v with
       | un=>rfl
       | a x=>simp only[V.map,ha]
       | tp xs=>simp only[V.map,ha,List.map_id']
       | fn f c=>exact (h1 f c rfl).elim
       | sb r n=>exact (h2 r n rfl).elim
      rw[e3 _ (by intro f c;unfold resV;split<;>simp) (by intro r n;unfold resV;split<;>simp)]at w1
      exact w1
     ·rw[killEnv_nil]
      have:=b4
      exact⟨rfl,this.fix,this.env,this.roots⟩
     ·intro K hK
      refine⟨argsG as x,_,hC x y hy,_,hf,rt,t1, ?_, ?_,r1, ?_,r2, ?_, ?_⟩
      ·rw[ioZ_fl _ _ hWcd hio,hbx];exact hn2
      ·rw[ioZ_fl _ _ hWcd hio,hbx];exact hseen
      ·exact i4
      ·simp only[outG,hvr,hvb];exact b1
      ·simp only[outG,hvr,hvb]
       have hn4:(newCs ((resG rs vr).flatMap (·.2)++(bxG as vb).flatten) S.next).2.2=X4.next:=by
        rw[<-n4];have:=b4.next;have:=n5.next;simp only at *;omega
       rw[hn4];exact hK
    ·simp at h
   ·simp at h
  ·simp at h
 ·simp at h
theorem callG_ok (hX:XOk X) (hS:SimX X S){e:GEnt P}{args:List Opd}{k:XV->XSt->Option β}(h:callG X e (args.map X.opd) k=some out):ClOk P X S e.f args k out :=
 (callGF_ok hX hS (C:=fun vs w R=>Calls P e.f vs.toArray w R) e.ok (args_sim hX hS args) h).mono fun K h=>.inl h
end
end Go.Vs
namespace Go.Vs
variable [Glb]
def LoopAt (P:Program) (c:Code) (Q:Exit->Act->World->Prop) (a:Act) (w:World):Prop :=
 ∀(b:Frame) (k:List Item) (cs:List Frame),∃e a' w',Q e a' w'/\Arrives P (lone (b.at a (.code c::.inLoop c::k)) cs w) b k cs e a' w'
theorem LoopAt.wp {P:Program}{c:Code}{Q:Exit->Act->World->Prop}{a:Act}{w:World}(h:LoopAt P c Q a w):(Code.loop c).wp P Q a w:=fun b k cs=>by
 obtain⟨e,a',w',hq,harr⟩:=h b k cs
 exact⟨e,a',w',hq,.of_steps (.one step_loop) harr⟩
theorem LoopAt.round {P:Program}{c:Code}{Q:Exit->Act->World->Prop}{a:Act}{w:World}(h:c.wp P (Exit.then (LoopAt P c Q) Q) a w):LoopAt P c Q a w:=fun b k cs=>by
 obtain⟨e,a₁,w₁,hq,harr⟩:=h b (.inLoop c::k) cs
 cases e with
 | normal =>
  obtain⟨e₂,a₂,w₂,hq₂,harr₂⟩:=hq b k cs
  exact⟨e₂,a₂,w₂,hq₂,.of_steps (Steps.trans harr (.one step_inLoop)) harr₂⟩
 | exit id=>exact⟨_,a₁,w₁,hq,.pass (x:=.inLoop c) rfl (fun _ _=>.inl (by simp)) harr⟩
 | goto l=>exact⟨_,a₁,w₁,hq,.pass (x:=.inLoop c) rfl (fun _ _=>.inl (by simp)) harr⟩
 | ret=>exact⟨_,a₁,w₁,hq,.pass (x:=.inLoop c) rfl (fun _ _=>.inl (by simp)) harr⟩
 | panic ch=>exact⟨_,a₁,w₁,hq,.pass (x:=.inLoop c) rfl (fun _ _=>.inl (by simp)) harr⟩
 | outgrown=>exact⟨_,a₁,w₁,hq,.pass (x:=.inLoop c) rfl (fun _ _=>.inl (by simp)) harr⟩
def VwL (P:Program) (N:Nat) (c:Code) (S:St) (Q:Exit->St->Prop):Prop :=
 ∀(w0:World) (own0:Nat->Nat->Prop) (pl0:Pls) (g:Lab) (pl:Pls) (a:Act) (w:World),Rel N w0 own0 pl0 g pl S a w->LoopAt P c (PQ N w0 own0 pl0 S.fix Q) a w
variable {P:Program} {N:Nat} {S:St} {Q:Exit->St->Prop}
theorem vwl_vw {c:Code}(h:VwL P N c S Q):Vw P N (.loop c) S Q:=fun w0 own0 pl0 g pl a w hR=>(h w0 own0 pl0 g pl a w hR).wp
theorem vwl_round {c:Code}(h:Vw P N c S (thenQ (fun S'=>VwL P N c S' Q) Q)):VwL P N c S Q:=fun w0 own0 pl0 g pl a w hR=>by
 refine LoopAt.round (wp_mono (h w0 own0 pl0 g pl a w hR) ?_)
 rintro e a' w' ⟨S',g',pl',q,hf,r⟩
 cases e with
 | normal =>
  have:=q w0 own0 pl0 g' pl' a' w' r
  rw[hf]at this
  exact this
 | exit id=>exact⟨S',g',pl',q,hf,r⟩
 | goto l=>exact⟨S',g',pl',q,hf,r⟩
 | ret=>exact⟨S',g',pl',q,hf,r⟩
 | panic ch=>exact⟨S',g',pl',q,hf,r⟩
 | outgrown=>exact⟨S',g',pl',q,hf,r⟩
theorem vwl_le {c:Code}{T:St}(hl:Le S T) (h:VwL P N c T Q):VwL P N c S Q:=fun w0 own0 pl0 g pl a w hR=>by
 obtain⟨g1,pl1,hR1⟩:=hl.2 N w0 own0 pl0 g pl a w hR
 have:=h w0 own0 pl0 g1 pl1 a w hR1
 rw[hl.1]at this
 exact this
theorem vwl_inv {c:Code}(I:Nat->St->Prop) (hr:∀k T,I k T->Vw P N c T (thenQ (fun S'=>∃k' T',k'<k/\I k' T'/\Le S' T') Q)):∀(n:Nat) (T:St),I n T->VwL P N c T Q:=by
 intro n
 induction n using Nat.strongRecOn with
 | _ n ih =>
  intro T hT
  refine vwl_round fun w0 own0 pl0 g pl a w hR=>?_
  refine wp_mono (hr n T hT w0 own0 pl0 g pl a w hR) ?_
  rintro e a' w' ⟨S',g',pl',q,hf,r⟩
  refine⟨S',g',pl', ?_,hf,r⟩
  cases e with
  | normal =>
   obtain⟨k',T',hk,hI',hl'⟩:=q
   exact vwl_le hl' (ih k' hk T' hI')
  | exit id=>exact q
  | goto l=>exact q
  | ret=>exact q
  | panic ch=>exact q
  | outgrown=>exact q
def SwL (P:Program) (N:Nat) (s:Stm) (S:St) (Q:Exit->St->Prop):Prop:=∀c,trC P N c=some s->VwL P N c S Q
theorem sw_of_l {x:Stm}(h:SwL P N x S Q):Sw P N (.loop x) S Q:=fun c hc=>by
 cases c with
 | loop a =>
  simp only[trC,Option.map_eq_some_iff,Stm.loop.injEq]at hc
  obtain⟨x',hx,rfl⟩:=hc
  exact vwl_vw (h a hx)
 | region id ops d=>cases d<;>simp [trC]at hc
 | seq a b=>simp [trC,Option.bind_eq_bind,Option.bind_eq_some_iff]at hc
 | cond c a b=>simp [trC,Option.bind_eq_bind,Option.bind_eq_some_iff]at hc
 | _=>simp [trC]at hc
theorem swl_round {x:Stm}(h:Sw P N x S (thenQ (fun S'=>SwL P N x S' Q) Q)):SwL P N x S Q:=fun c hc=>by
 refine vwl_round fun w0 own0 pl0 g pl a w hR=>?_
 refine wp_mono (h c hc w0 own0 pl0 g pl a w hR) ?_
 rintro e a' w' ⟨S',g',pl',q,hf,r⟩
 refine⟨S',g',pl', ?_,hf,r⟩
 cases e with
 | normal=>exact q c hc
 | exit id=>exact q
 | goto l=>exact q
 | ret=>exact q
 | panic ch=>exact q
 | outgrown=>exact q
theorem swl_inv {x:Stm}(I:Nat->St->Prop) (n:Nat) (h0:∃T,I n T/\Le S T) (hr:∀k T,I k T->Sw P N x T (thenQ (fun S'=>∃k' T',k'<k/\I k' T'/\Le S' T') Q)):SwL P N x S Q:=fun c hc=>by
 obtain⟨T,hT,hl⟩:=h0
 exact vwl_le hl (vwl_inv I (fun k T hI=>hr k T hI c hc) n T hT)
end Go.Vs
