import Derived.OpenShut
import Derived.LaidMore
import Derived.Test.YtmfmjngkbddenaaGreatDoorVsW5
import Derived.Test.YtmfmjngkbddenaaGreatDoorVsW2
set_option linter.all false
namespace Go.Vs
variable [Glb]
def Ql (g:FuncId):Nat->Nat->List XA->List (Nat×Nat×XV)
 | 0,i,l=>[(i,0,.fn g l)]
 | n+1,i,a::l=>(i,0,.a a)::Ql g n (i+1) l
 | _+1,_,[]=>[]
def Tf (n:Nat) (g:FuncId) (as:List GArg) (x:Tp (Cm as)):XSt :=
 ⟨Ql g n 0 (Fw as (inL (Ay as x) 0 (A5 (Ay as x)+B4 as)).1 (A5 (Ay as x))),(inL (Ay as x) 0 (A5 (Ay as x)+B4 as)).2.1++D8 as (inL (Ay as x) 0 (A5 (Ay as x)+B4 as)).1 (A5 (Ay as x)),(inL (Ay as x) 0 (A5 (Ay as x)+B4 as)).2.2,1,A5 (Ay as x)+B4 as⟩
noncomputable def fnH {P:Program}(Φ:List (Fx P)) (H:List (Nat×Hn)) (s:Stm) (an:An) (is:List I) (n:Nat) (g:FuncId) (as:List GArg) (rs:List (Bool×Ty)) (x:Tp (Cm as)):Option (Tp (Ew as rs)) :=
 Cr Φ H s an (Tf n g as x) fun e X'=>match e with
  | .ret=>Tm as rs x X' is
  | .normal=>Tm as rs x X' is
  | _=>none
theorem Zpb {s:Nat}:∀(l:List XA) (k i:Nat) (a:XA),l[i]? = some a->lk (J9 s k l) (k+i)=some (s,.a a)
 | [],k,i,a,h=>by simp at h
 | b::l,k,0,a,h=>by
  simp only[Kt,Ka]at h;subst h;simp only[J9];rw[Bb,if_pos (by simp only;omega)]
 | b::l,k,i+1,a,h=>by
  have:=Zpb (s:=s) l (k+1) i a (by simpa using h);simp only[J9];rw[Bb,if_neg (by simp only;omega)]
  rwa [show k+(i+1)=k+1+i by omega]
theorem Zhr {g:FuncId}:∀(n i:Nat) (l:List XA){t st:Nat}{v:XV},lk (Ql g n i l) t=some (st,v)->st=0/\((t=i+n/\n<=l.length/\v=.fn g (l.drop n))\/(i<=t/\t<i+n/\∃a,v=.a a/\l[t-i]? = some a))
 | 0,i,l,t,st,v,h=>by
  simp only[Ql]at h;rw[Bb]at h;split at h
  ·rename_i e;simp only[Ka,Kb]at h;exact⟨h.1.symm,.inl ⟨by simp only at e;omega,Kbb _,by rw[<-h.2];rfl⟩⟩
  ·simp [lk]at h
 | n+1,i,[],t,st,v,h=>by simp [Ql,lk]at h
 | n+1,i,a::l,t,st,v,h=>by
  simp only[Ql]at h;rw[Bb]at h;split at h
  ·rename_i e;simp only at e;subst e;simp only[Ka,Kb]at h;exact⟨h.1.symm,.inr ⟨Kd _,by omega,a,h.2.symm,by simp⟩⟩
  ·rename_i e;simp only at e;obtain⟨h0,h1⟩:=Zhr n (i+1) l h;refine⟨h0, ?_⟩;rcases h1 with ⟨h1,h2,h3⟩|⟨h1,h2,b,h3,h4⟩
   ·exact .inl ⟨by omega,by simp;omega,by simpa using h3⟩
   ·refine .inr ⟨by omega,by omega,b,h3, ?_⟩;rw[show t-i=(t-(i+1))+1 by omega,Kga];exact h4
theorem Zqr:∀(as:List GArg) (cs:List XC) (b:Nat),(Fw as cs b).length=as.length
 | [],_,_=>rfl
 | a::as,cs,b=>by
  simp only[Fw];cases a.ptr<;>simp only[Kh,Zqr as]
theorem Znf {R:XRs}:∀(vs:List V) (L:List XA),vs.length=L.length->(∀(i:Nat) (a:XA),L[i]? = some a->∃z,vs[i]? = some (V.a z)/\WkA z (cA R a))->∃caps,vs=caps.map V.a/\Aa WkA caps (L.map (cA R))
 | [],[],_,_=>⟨[],rfl,trivial⟩
 | [],_::_,h,_=>by simp at h
 | _::_,[],h,_=>by simp at h
 | v::vs,a::L,h,hp=>by
  obtain⟨caps,h1,h2⟩:=Znf vs L (by simpa using h) fun i b hb=>by simpa using hp (i+1) b (by simpa using hb)
  obtain⟨z,h3,h4⟩:=hp 0 a rfl;simp only[Kt,Ka]at h3;exact⟨z::caps,by rw[h3,h1];rfl,h4,h2⟩
theorem Zfw:∀(as:List GArg) (x:Tp (Cm as)),(Aw as x).length=as.length
 | [],_=>rfl
 | a::as,x=>by simp only[Aw,Kh,Zfw as]
theorem Yhu (n:Nat) (g:FuncId) (as:List GArg) (x:Tp (Cm as)) (ho:okG as=true) (hn:n<=as.length):∃caps,(Bi (Aw as x)).1.drop n=caps.map V.a/\XOk (Tf n g as x)/\SimX (Tf n g as x) ⟨Hc 0 ((Bi (Aw as x)).1.take n)++[(n,.fn g caps)],(Bi (Aw as x)).2.1,(Bi (Aw as x)).2.2,Bt (Aw as x)⟩:=by
 obtain⟨h1,h2⟩:=Zib as x ho;generalize hL:Fw as (inL (Ay as x) 0 (A5 (Ay as x)+B4 as)).1 (A5 (Ay as x))=L;have hLl:L.length=as.length:=by rw[<-hL];exact Zqr _ _ _
 have hvl:(Bi (Aw as x)).1.length=as.length:=by rw[<-Zfw as x];exact Zcl _ _ _
 have henv:(Bu as x).env=J9 0 0 L:=by rw[<-hL];rfl
 have hpt:∀(i:Nat) (a:XA),L[i]? = some a->(∃z,(Bi (Aw as x)).1[i]? = some (V.a z)/\WkA z (cA (Bu as x).roots a))/\okA (Bu as x).roots (Bu as x).next (Bu as x).stamp a:=by
  intro i a hi;have hl:lk (Bu as x).env i=some (0,.a a):=by
   rw[henv];have:=Zpb (s:=0) L 0 i a hi
   rwa [Kp]at this
  refine⟨?_,(h1.env i 0 _ hl).2⟩;rcases h2.env i 0 _ hl with h|⟨y,hy,hw⟩
  ·cases h
  ·obtain⟨_,h3⟩:=Wk hy;rw[Koc]at h3;cases y with
   | a z=>exact⟨z,h3,hw⟩
   | _=>exact hw.elim
 obtain⟨caps,hc1,hc2⟩:=Znf (R:=(Bu as x).roots) ((Bi (Aw as x)).1.drop n) (L.drop n) (by simp [hLl,hvl]) fun i a hi=>by
  rw[Kva]at hi ⊢;exact (hpt _ a hi).1
 have hE:(Tf n g as x).env=Ql g n 0 L:=by rw[<-hL];rfl
 refine⟨caps,hc1,⟨h1.ids, ?_,h1.box,h1.fixle⟩,⟨h2.next,h2.fix, ?_,h2.roots⟩⟩
 ·intro t st v hl;rw[hE]at hl;obtain⟨rfl,h|⟨_,_,a,rfl,h4⟩⟩:=Zhr n 0 L hl
  ·obtain⟨_,_,rfl⟩:=h;refine⟨Nat.one_pos,fun a ha=>?_⟩;obtain⟨i,hi⟩:=Kgc (Kib ha);exact (hpt i a hi).2
  ·exact⟨Nat.one_pos,(hpt _ a h4).2⟩
 ·intro t st v hl;rw[hE]at hl;right;obtain⟨rfl,h|⟨_,h5,a,rfl,h4⟩⟩:=Zhr n 0 L hl
  ·obtain⟨rfl,_,rfl⟩:=h;refine⟨.fn g caps, ?_,rfl,hc2⟩;rw[Dn];cases hq:get (Hc 0 ((Bi (Aw as x)).1.take n)) (0+n) with
   | some y =>
    exfalso;obtain⟨_,h3⟩:=Wk hq;have:=(Kca.1 h3).1;simp at this;omega
   | none=>simp only[get];rw[if_pos (by omega)]
  ·obtain⟨⟨z,h6,h7⟩,_⟩:=hpt _ a h4;refine⟨.a z, ?_,h7⟩;rw[Dn,Zbx (Kbb _) (by rw[Ksa,if_pos (by omega)];exact h6)]
theorem Ykd {P:Program}{f g:FuncId}{n:Nat}{fn:Func}{Φ:List (Fx P)}{H:List (Nat×Hn)}{an:An}(hm:P.follows .mixedOrders=true){as:List GArg}{rs:List (Bool×Ty)}{F:Tp (Cm as)->Option (Tp (Ew as rs))}(hf:P.funcs[f]? = some fn) (hk:okF P fn (n+1) (okG as&&Nat.ble n as.length)=true) (h:∀x,fnH Φ H (sOf P fn) an (iOf P fn) n g as rs x=F x) (x:Tp (Cm as)) (y:Tp (Ew as rs)) (hy:F x=some y) :
  Vl (fun ws w R=>Calls P f (G7 n g ws).toArray w R) (Aw as x) (Ju as rs (Dd _ y)):=by
 obtain⟨a,b,c,d⟩:=Zc9 hm hk;simp only[Ke]at d;obtain⟨co,hb,hs⟩:=V6 a;obtain⟨caps,k1,k2,k3⟩:=Yhu n g as x d.1 (Kgb d.2);refine Ykb hf hb b (Kgb c) (by rw[Zfw];exact Kgb d.2) k1 ?_;refine H0 hm (sOf P fn) an k2 k3 ((h x).trans hy) ?_ co hs;intro e X' S' g1 g2 g3 g4;cases e with
 | ret=>exact Zcs (E:=(Tf n g as x).env) d.1 g1 g2 g3 g4
 | normal=>exact Zcs (E:=(Tf n g as x).env) d.1 g1 g2 g3 g4
 | _=>simp at g4
end Go.Vs
namespace Go.Vs
variable [Glb]
def Ig (secs:List (List UInt8)) (cache:List Wr) (fuse:Int):Bool:=decide ((1<=secs.length/\secs.length<=64)/\cache.length<=40/\(-1<=fuse/\fuse<=1000)/\(∀b∈secs,b.length<=120)/\∀w∈cache,0<=w.1/\w.1<=(secs.length:Int)-1/\w.2.length<=120)
end Go.Vs
namespace Go.Vs
variable [Glb]
def rdL (l:List Wr) (n:Int) (b:List UInt8):List UInt8:=l.foldl (fun b w=>if w.1=n then w.2 else b) b
theorem Zsr {l:List Wr}{n:Int}{b:List UInt8}{i:Nat}(h:i<l.length) (hw:l[i].1=n):rdL (l.take (i+1)) n b=l[i].2:=by
 rw[Kfc h];simp only[rdL,Kse,Kqd,List.foldl_nil,hw,if_true]
theorem Zss {l:List Wr}{n:Int}{b:List UInt8}{i:Nat}(h:i<l.length) (hw:¬l[i].1=n):rdL (l.take (i+1)) n b=rdL (l.take i) n b:=by
 rw[Kfc h];simp only[rdL,Kse,Kqd,List.foldl_nil,hw,if_false]
theorem Yju (l:List Wr) (n:Int) (b:List UInt8):rdL l n b=b\/∃w∈l,rdL l n b=w.2:=by
 induction l generalizing b with
 | nil=>exact .inl rfl
 | cons w l ih =>
  have e:rdL (w::l) n b=rdL l n (if w.1=n then w.2 else b):=rfl;rw[e];rcases ih (if w.1=n then w.2 else b) with h|⟨x,hx,h⟩
  ·rw[h];split
   ·exact .inr ⟨w,Km,rfl⟩
   ·exact .inl rfl
  ·exact .inr ⟨x,Kj _ hx,h⟩
def Ox (secs:List (List UInt8)) (cache:List Wr) (fuse n:Int):List UInt8:=if Ig secs cache fuse=true/\0<=n/\n<=(secs.length:Int)-1 then rdL cache n (secs.getD n.toNat []) else []
theorem Zst {secs:List (List UInt8)}{cache:List Wr}{fuse:Int}{k:Nat}(h:Ig secs cache fuse=true) (hk:k<secs.length):Ox secs cache fuse k=rdL cache k secs[k]:=by
 rw[Ox,if_pos ⟨h,by omega,by omega⟩,Kxb];simp [Kfg,hk]
theorem Zdf {secs:List (List UInt8)}{cache:List Wr}{fuse n:Int}(h:¬(Ig secs cache fuse=true/\0<=n/\n<=(secs.length:Int)-1)):Ox secs cache fuse n=[]:=if_neg h
theorem Yjv {secs:List (List UInt8)}{cache:List Wr}{fuse n:Int}{m:Nat}(hs:∀b∈secs,b.length<=m) (hc:∀w∈cache,w.2.length<=m):(Ox secs cache fuse n).length<=m:=by
 unfold Ox;split
 ·rename_i h;rcases Yju cache n (secs.getD n.toNat []) with e|⟨w,hw,e⟩
  ·rw[e];have hk:n.toNat<secs.length:=by omega
   have:secs.getD n.toNat []=secs[n.toNat]:=by simp [Kfg,hk]
   rw[this];exact hs _ (Ktb hk)
  ·rw[e];exact hc w hw
 ·simp
end Go.Vs
namespace Go.Vs
variable [Glb]
def opF (fuse:Int):Int:=if fuse=0 then -1 else if 0<fuse then fuse-1 else fuse
def wrC (secs:List (List UInt8)) (cache:List Wr) (fuse:Int) (down:Bool) (n:Int) (b:List UInt8):List Wr×Int×Bool :=
 if down=true\/¬(0<=n/\n<=(secs.length:Int)-1)\/120<b.length\/40<=cache.length then (cache,fuse,down) else if fuse=0 then (cache,-1,true) else (cache++[(n,b)],opF fuse,down)
theorem Zy6 {secs:List (List UInt8)}{cache:List Wr}{fuse:Int}(h:Ig secs cache fuse=true):(1<=secs.length/\secs.length<=64)/\cache.length<=40/\(-1<=fuse/\fuse<=1000)/\(∀b∈secs,b.length<=120)/\∀w∈cache,0<=w.1/\w.1<=(secs.length:Int)-1/\w.2.length<=120:=of_decide_eq_true h
end Go.Vs
namespace Go.Vs
variable [Glb]
def wH (l:List Wr) (i:Nat):List (List D):=(l.take i).map (fun w=>[.lf (.int .i64 w.1),.hole])++wD (l.drop i)
@[simp] theorem Yok (l:List Wr) (i:Nat):(wH l i).length=l.length:=by simp [wH];omega
def flL (s:List (List UInt8)) (l:List Wr):List (List UInt8):=l.foldl (fun s w=>s.set w.1.toNat w.2) s
@[simp] theorem Yn7 (s:List (List UInt8)) (l:List Wr):(flL s l).length=s.length:=by
 induction l generalizing s with
 | nil=>rfl
 | cons w l ih=>simp only[flL,Kqd]at ih ⊢;rw[ih];simp
abbrev Dv:=List (List UInt8)×List Wr×Int×Bool
end Go.Vs
namespace Go.Vs
variable [Glb]
def SmD (x:Dv):Prop:=x.1.length<=1048576/\(∀b∈x.1,b.length<=1048576)/\x.2.1.length<=1048577/\∀w∈x.2.1,w.2.length<=1048576
def Yhw (n:Int) (i:Nat):Bool:=decide (i<30)&&(Int.toNat n / 2^i%2==1)
end Go.Vs
namespace Go.Vs
variable [Glb]
def wP (p:Nat->Bool):Nat->List Wr->List (List D)
 | _,[]=>[]
 | i,w::l=>[.lf (.int .i64 w.1),if p i then .hole else .sl 1 (bD w.2)]::wP p (i+1) l
@[simp] theorem Ynk (p:Nat->Bool):∀(l:List Wr) (i:Nat),(wP p i l).length=l.length
 | [],_=>rfl
 | w::l,i=>by simp only[wP,Kh,Ynk p l]
def kb (n:Int) (i:Nat) (j:Nat):Bool:=decide (j<i)&&Yhw n j
end Go.Vs
namespace Go.Vs
variable [Glb]
theorem Zxx (l:List UInt8):V0 (bD l)=true:=by
 simp [V0,bD,W6]
theorem Zxw (l r:List UInt8):bD l++bD r=bD (l++r):=by simp [bD]
theorem Zmv {S:St}{K:KW}{zero:List C}{x y:Opd}{r ry n m lo:Nat}{p:Ad}{l r2:List UInt8}(hx:S.opd x=.a (.c (.rf r [] 1 0 n))) (hr:get S.roots r=some (.tr 1 (bD l))) (hn:n=l.length) (hy:S.opd y=.a (.c (.rf ry p 1 lo m))) (hne:ry≠r) (hnode:S.node ry p=some (1,bD r2)) (hm:lo+m<=r2.length) (hb:l.length+m<=140737488355328)
  (hK:K (.a (.c (.rf S.next [] 1 0 (l.length+m)))) [] ((S.next,.tr 1 (bD (l++(r2.drop lo).take m)))::del S.roots r) (S.next+1)):wr S K (.app 1 1 zero x y):=by
 have e:((bD r2).drop lo).take m=bD ((r2.drop lo).take m):=by simp [bD,Kdb,Kcb]
 refine⟨(1,bD l,some r), ?_,rfl, ?_⟩
 ·simp only[Nm,hx,hr,hn,Du,if_true];simp
 ·simp only[hy];refine⟨trivial,by simpa using hne,by simpa using hb,bD r2,hnode,by simpa using hm,.inl ⟨by rw[e];exact Zxx _, ?_⟩⟩;rw[e,Zxw,Du];exact hK
end Go.Vs
namespace Go.Vs
def Ze9 (P:Program) (W:World) (n:String) (d:DataW Unit):Prop :=
 ∃g t cs fuel p,P.globalNamed n=some g/\(P.globals[g]?).map (·.type)=some t/\W.var? P n=some cs/\DataW.trod (fun _=>()) P W 0 (fun _=>true) false fuel t cs.toList=some (d,p)
theorem Zj0 {P:Program}{W:World}{n:String}{d:DataW Unit}:∀{l:List (String×DataW Unit)}{ps:List MemPlace},DataW.LaidVars P W l ps->(n,d)∈l->Ze9 P W n d
 | [],_,_,hm=>by cases hm
 | (m,e)::l,ps,h,hm=>by
  obtain⟨g,t,cs,fuel,p,q,h1,h2,h3,h4,h5,_⟩:=h;cases hm with
  | head=>exact⟨g,t,cs,fuel,p,h1,h2,h3,h4⟩
  | tail _ hm=>exact Zj0 h5 hm
def I9 (b:UInt8):DataW Unit:=.lit (.int .u8 b.toNat)
def Zvb (bs:List UInt8):DataW Unit:=.agg (bs.map I9)
def Xn:List UInt8->List (DataW Unit)
 | a::b::l=>.agg [I9 a,I9 b]::Xn l
 | _=>[]
theorem Zsk:∀(l:List UInt8) (i:Nat) (a b:UInt8),l[2*i]? = some a->l[2*i+1]? = some b->(Xn l)[i]? = some (.agg [I9 a,I9 b])
 | [],i,a,b,h,_=>by simp at h
 | [x],i,a,b,h,k=>by cases i<;>simp at k
 | x::y::l,0,a,b,h,k=>by
  simp only[Nat.mul_zero,Kt,Ka]at h;simp only[Nat.mul_zero,Kp,Kga,Kt,Ka]at k;subst h k;rfl
 | x::y::l,i+1,a,b,h,k=>by
  rw[show 2*(i+1)=2*i+1+1 by omega,Kga,Kga]at h;rw[show 2*(i+1)+1=2*i+1+1+1 by omega,Kga,Kga]at k;exact Zsk l i a b h k
theorem Znp {W:World}{g o:Nat}{v:Value}(h:W.cell? ⟨g,o,none⟩=some v):g<W.heap.size:=by
 rcases Kac g W.heap.size with k|k
 ·exact k
 ·simp only[World.cell?,Kle k]at h;cases h
theorem Zjf {P:Program}{W:World}{fuel:Nat}{e:TypeId}{cs:List Value}{i:Nat}{b:UInt8}{x:DataW Unit×List MemPlace}(he:P.underlying e=some (.int .u8)) (h:DataW.trod (fun _=>()) P W 0 (fun _=>true) false fuel e ((cs.drop i).take 1)=some x) (hx:x.1=I9 b):cs[i]? = some (.int .u8 b.toNat):=by
 obtain⟨z,e1,e2,_⟩:=DataW.trod_int he h;rw[e2]at hx;simp only[I9,DataW.lit.injEq,Lit.int.injEq,true_and]at hx;subst hx;have h0:((cs.drop i).take 1)[0]? = some (.int .u8 (b.toNat:Int)):=by rw[e1];rfl
 simpa using h0
theorem Yme {P:Program}{W:World}{n:String}{g t e N:Nat}{bs:List UInt8}(hg:P.globalNamed n=some g) (hty:(P.globals[g]?).map (·.type)=some t) (ht:P.underlying t=some (.array N e)) (he:P.underlying e=some (.int .u8)) (hc:P.cellsOf e=1) (hr:Ze9 P W n (Zvb bs)) :
  ∀(o:Nat) (y:UInt8),bs[o]? = some y->g<W.heap.size/\W.cell? ⟨g,o,none⟩=some (.int .u8 y.toNat):=by
 obtain⟨g',t',cs,fuel,p,hg',hty',hv,hd⟩:=hr;rw[hg]at hg';cases hg';rw[hty]at hty';cases hty';obtain⟨xs,m,_,ex,_,hl,hel⟩:=DataW.trod_array ht hd;have e3:xs.map (·.1)=bs.map I9:=(DataW.agg.inj (Prod.mk.inj ex).1).symm;intro o y hy;have hlen:xs.length=bs.length:=by simpa using congrArg List.length e3
 have ho:o<bs.length:=(Kca.1 hy).1;have hE:=hel o (by omega);rw[hc,Kld,Kr (by omega)]at hE;have e4:(xs.map (·.1))[o]? = (bs.map I9)[o]?:=by rw[e3]
 rw[Kz,Kz,Kr (by omega),hy]at e4;simp only[Kha,Ka]at e4;have h1:=Zjf he hE e4;have h2:W.cell? ⟨g,o,none⟩=some (.int .u8 y.toNat):=by rw[World.var?_cell hg hv o];simpa using h1
 exact⟨Znp h2,h2⟩
theorem Yjn {P:Program}{W:World}{n:String}{g t s N:Nat}{f0 f1:Field}{bs:List UInt8}(hg:P.globalNamed n=some g) (hty:(P.globals[g]?).map (·.type)=some t) (ht:P.underlying t=some (.array N s)) (hs:P.underlying s=some (.struct #[f0,f1])) (h0:P.underlying f0.type=some (.int .u8)) (h1:P.underlying f1.type=some (.int .u8)) (c0:P.cellsOf f0.type=1) (c1:P.cellsOf f1.type=1) (o0:f0.offset=0) (o1:f1.offset=1) (hc:P.cellsOf s=2) (hN:bs.length=2*N) (hr:Ze9 P W n (.agg (Xn bs))) :
  ∀(o:Nat) (y:UInt8),bs[o]? = some y->g<W.heap.size/\W.cell? ⟨g,o,none⟩=some (.int .u8 y.toNat):=by
 obtain⟨g',t',cs,fuel,p,hg',hty',hv,hd⟩:=hr;rw[hg]at hg';cases hg';rw[hty]at hty';cases hty';obtain⟨xs,m,_,ex,_,hl,hel⟩:=DataW.trod_array ht hd;have e3:xs.map (·.1)=Xn bs:=(DataW.agg.inj (Prod.mk.inj ex).1).symm;intro o y hy;have ho:o<bs.length:=(Kca.1 hy).1
 -- the pair it stands in
 have key:∀i,i<N->∃a b:UInt8,bs[2*i]? = some a/\bs[2*i+1]? = some b/\cs.toList[2*i]? = some (.int .u8 a.toNat)/\cs.toList[2*i+1]? = some (.int .u8 b.toNat):=by
  intro i hi;refine⟨bs[2*i]'(by omega),bs[2*i+1]'(by omega),Kr _,Kr _, ?_⟩;have hE:=hel i hi;rw[hc,Kr (by omega)]at hE;have hp:=Zsk bs i _ _ (Kr (show 2*i<bs.length by omega)) (Kr (show 2*i+1<bs.length by omega));rw[<-e3,Kz,Kr (by omega)]at hp;simp only[Kha,Ka]at hp;obtain⟨ys,k,_,ey,_,_,hf⟩:=DataW.trod_struct hs hE;have hy1:ys.map (·.1)=[I9 (bs[2*i]'(by omega)),I9 (bs[2*i+1]'(by omega))]:=by
   rw[ey]at hp;exact DataW.agg.inj hp
  match ys,hy1 with
  | [u,v],hy1 =>
   simp only[Kc,Ksb,List.cons.injEq,and_true]at hy1;have q0:=hf 0 f0 rfl;have q1:=hf 1 f1 rfl;rw[o0,c0]at q0;rw[o1,c1]at q1;have r0:=Zjf h0 q0 hy1.1;have r1:=Zjf h1 q1 hy1.2;rw[Ksa,if_pos (by omega),Kva]at r0 r1;rw[show i*2+0=2*i by omega]at r0;rw[show i*2+1=2*i+1 by omega]at r1;exact⟨r0,r1⟩
 obtain⟨a,b,k1,k2,k3,k4⟩:=key (o / 2) (by omega);have h2:W.cell? ⟨g,o,none⟩=some (.int .u8 y.toNat):=by
  rw[World.var?_cell hg hv o,<-Kbf];rcases (show o=2*(o / 2)\/o=2*(o / 2)+1 by omega) with h|h
  ·rw[<-h]at k1 k3;rw[hy]at k1;cases k1;exact k3
  ·rw[<-h]at k2 k4;rw[hy]at k2;cases k2;exact k4
 exact⟨Znp h2,h2⟩
theorem Ycx {bs cs:List UInt8}{W:World}(h0:∀(o:Nat) (y:UInt8),bs[o]? = some y->0<W.heap.size/\W.cell? ⟨0,o,none⟩=some (.int .u8 y.toNat)) (h1:∀(o:Nat) (y:UInt8),cs[o]? = some y->1<W.heap.size/\W.cell? ⟨1,o,none⟩=some (.int .u8 y.toNat)) :
  ∀b o v,@E5 ⟨[(0,bs),(1,cs)]⟩ b o=some v->b<W.heap.size/\W.cell? ⟨b,o,none⟩=some v:=by
 intro b o v h
 match b,h with
 | 0,h =>
  have e:@E5 ⟨[(0,bs),(1,cs)]⟩ 0 o=(match bs[o]? with|some y=>some (.int .u8 y.toNat)|none=>none):=rfl;rw[e]at h;split at h
  ·rename_i y hy;cases h;exact h0 o y hy
  ·cases h
 | 1,h =>
  have e:@E5 ⟨[(0,bs),(1,cs)]⟩ 1 o=(match cs[o]? with|some y=>some (.int .u8 y.toNat)|none=>none):=rfl;rw[e]at h;split at h
  ·rename_i y hy;cases h;exact h1 o y hy
  ·cases h
 | b+2,h =>
  have e:@E5 ⟨[(0,bs),(1,cs)]⟩ (b+2) o=none:=rfl;rw[e]at h;cases h
end Go.Vs
