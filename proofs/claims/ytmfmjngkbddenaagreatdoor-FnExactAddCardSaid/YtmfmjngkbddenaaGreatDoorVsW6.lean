import Derived.OpenShut
import Derived.LaidMore
import Derived.Test.YtmfmjngkbddenaaGreatDoorVsW5
import Derived.Test.YtmfmjngkbddenaaGreatDoorVsW2
set_option linter.all false
namespace Go.Vs
variable [Glb]
def Q6 (g:FuncId):Nat->Nat->List XA->List (Nat×Nat×XV)
 | 0,i,l=>[(i,0,.fn g l)]
 | n+1,i,a::l=>(i,0,.a a)::Q6 g n (i+1) l
 | _+1,_,[]=>[]
def T6 (n:Nat) (g:FuncId) (as:List GArg) (x:Tp (Co as)):XSt :=
 ⟨Q6 g n 0 (F7 as (inL (Az as x) 0 (A7 (Az as x)+B5 as)).1 (A7 (Az as x))),(inL (Az as x) 0 (A7 (Az as x)+B5 as)).2.1++D7 as (inL (Az as x) 0 (A7 (Az as x)+B5 as)).1 (A7 (Az as x)),(inL (Az as x) 0 (A7 (Az as x)+B5 as)).2.2,1,A7 (Az as x)+B5 as⟩
noncomputable def fnH {P:Program}(Φ:List (Fx P)) (H:List (Nat×Hn)) (s:Stm) (an:An) (is:List I) (n:Nat) (g:FuncId) (as:List GArg) (rs:List (Bool×Ty)) (x:Tp (Co as)):Option (Tp (E4 as rs)) :=
 Cv Φ H s an (T6 n g as x) fun e X'=>match e with
  | .ret=>Uc as rs x X' is
  | .normal=>Uc as rs x X' is
  | _=>none
theorem Zri {s:Nat}:∀(l:List XA) (k i:Nat) (a:XA),l[i]? = some a->lk (K7 s k l) (k+i)=some (s,.a a)
 | [],k,i,a,h=>by simp at h
 | b::l,k,0,a,h=>by
  simp only[Ku,Ka]at h;subst h;simp only[K7];rw[Ba,if_pos (by simp only;omega)]
 | b::l,k,i+1,a,h=>by
  have:=Zri (s:=s) l (k+1) i a (by simpa using h);simp only[K7];rw[Ba,if_neg (by simp only;omega)]
  rwa [show k+(i+1)=k+1+i by omega]
theorem Zi6 {g:FuncId}:∀(n i:Nat) (l:List XA){t st:Nat}{v:XV},lk (Q6 g n i l) t=some (st,v)->st=0/\((t=i+n/\n<=l.length/\v=.fn g (l.drop n))\/(i<=t/\t<i+n/\∃a,v=.a a/\l[t-i]? = some a))
 | 0,i,l,t,st,v,h=>by
  simp only[Q6]at h;rw[Ba]at h;split at h
  ·rename_i e;simp only[Ka,Kb]at h;exact⟨h.1.symm,.inl ⟨by simp only at e;omega,Kpa _,by rw[<-h.2];rfl⟩⟩
  ·simp [lk]at h
 | n+1,i,[],t,st,v,h=>by simp [Q6,lk]at h
 | n+1,i,a::l,t,st,v,h=>by
  simp only[Q6]at h;rw[Ba]at h;split at h
  ·rename_i e;simp only at e;subst e;simp only[Ka,Kb]at h;exact⟨h.1.symm,.inr ⟨Kd _,by omega,a,h.2.symm,by simp⟩⟩
  ·rename_i e;simp only at e;obtain⟨h0,h1⟩:=Zi6 n (i+1) l h;refine⟨h0, ?_⟩;rcases h1 with ⟨h1,h2,h3⟩|⟨h1,h2,b,h3,h4⟩
   ·exact .inl ⟨by omega,by simp;omega,by simpa using h3⟩
   ·refine .inr ⟨by omega,by omega,b,h3, ?_⟩;rw[show t-i=(t-(i+1))+1 by omega,Kla];exact h4
theorem Zs4:∀(as:List GArg) (cs:List XC) (b:Nat),(F7 as cs b).length=as.length
 | [],_,_=>rfl
 | a::as,cs,b=>by
  simp only[F7];cases a.ptr<;>simp only[Kg,Zs4 as]
theorem Zpd {R:XRs}:∀(vs:List V) (L:List XA),vs.length=L.length->(∀(i:Nat) (a:XA),L[i]? = some a->∃z,vs[i]? = some (V.a z)/\WkA z (cA R a))->∃caps,vs=caps.map V.a/\Aa WkA caps (L.map (cA R))
 | [],[],_,_=>⟨[],rfl,trivial⟩
 | [],_::_,h,_=>by simp at h
 | _::_,[],h,_=>by simp at h
 | v::vs,a::L,h,hp=>by
  obtain⟨caps,h1,h2⟩:=Zpd vs L (by simpa using h) fun i b hb=>by simpa using hp (i+1) b (by simpa using hb)
  obtain⟨z,h3,h4⟩:=hp 0 a rfl;simp only[Ku,Ka]at h3;exact⟨z::caps,by rw[h3,h1];rfl,h4,h2⟩
theorem Zg7:∀(as:List GArg) (x:Tp (Co as)),(Ay as x).length=as.length
 | [],_=>rfl
 | a::as,x=>by simp only[Ay,Kg,Zg7 as]
theorem Ylv (n:Nat) (g:FuncId) (as:List GArg) (x:Tp (Co as)) (ho:okG as=true) (hn:n<=as.length):∃caps,(Bh (Ay as x)).1.drop n=caps.map V.a/\XOk (T6 n g as x)/\SimX (T6 n g as x) ⟨Ht 0 ((Bh (Ay as x)).1.take n)++[(n,.fn g caps)],(Bh (Ay as x)).2.1,(Bh (Ay as x)).2.2,Bs (Ay as x)⟩:=by
 obtain⟨h1,h2⟩:=Zju as x ho;generalize hL:F7 as (inL (Az as x) 0 (A7 (Az as x)+B5 as)).1 (A7 (Az as x))=L;have hLl:L.length=as.length:=by rw[<-hL];exact Zs4 _ _ _
 have hvl:(Bh (Ay as x)).1.length=as.length:=by rw[<-Zg7 as x];exact Zdr _ _ _
 have henv:(Bw as x).env=K7 0 0 L:=by rw[<-hL];rfl
 have hpt:∀(i:Nat) (a:XA),L[i]? = some a->(∃z,(Bh (Ay as x)).1[i]? = some (V.a z)/\WkA z (cA (Bw as x).roots a))/\okA (Bw as x).roots (Bw as x).next (Bw as x).stamp a:=by
  intro i a hi;have hl:lk (Bw as x).env i=some (0,.a a):=by
   rw[henv];have:=Zri (s:=0) L 0 i a hi
   rwa [Kr]at this
  refine⟨?_,(h1.env i 0 _ hl).2⟩;rcases h2.env i 0 _ hl with h|⟨y,hy,hw⟩
  ·cases h
  ·obtain⟨_,h3⟩:=W8 hy;rw[Koc]at h3;cases y with
   | a z=>exact⟨z,h3,hw⟩
   | _=>exact hw.elim
 obtain⟨caps,hc1,hc2⟩:=Zpd (R:=(Bw as x).roots) ((Bh (Ay as x)).1.drop n) (L.drop n) (by simp [hLl,hvl]) fun i a hi=>by
  rw[Kva]at hi ⊢;exact (hpt _ a hi).1
 have hE:(T6 n g as x).env=Q6 g n 0 L:=by rw[<-hL];rfl
 refine⟨caps,hc1,⟨h1.ids, ?_,h1.box,h1.fixle⟩,⟨h2.next,h2.fix, ?_,h2.roots⟩⟩
 ·intro t st v hl;rw[hE]at hl;obtain⟨rfl,h|⟨_,_,a,rfl,h4⟩⟩:=Zi6 n 0 L hl
  ·obtain⟨_,_,rfl⟩:=h;refine⟨Nat.one_pos,fun a ha=>?_⟩;obtain⟨i,hi⟩:=Kgc (Kib ha);exact (hpt i a hi).2
  ·exact⟨Nat.one_pos,(hpt _ a h4).2⟩
 ·intro t st v hl;rw[hE]at hl;right;obtain⟨rfl,h|⟨_,h5,a,rfl,h4⟩⟩:=Zi6 n 0 L hl
  ·obtain⟨rfl,_,rfl⟩:=h;refine⟨.fn g caps, ?_,rfl,hc2⟩;rw[Dn];cases hq:get (Ht 0 ((Bh (Ay as x)).1.take n)) (0+n) with
   | some y =>
    exfalso;obtain⟨_,h3⟩:=W8 hq;have:=(Kea.1 h3).1;simp at this;omega
   | none=>simp only[get];rw[if_pos (by omega)]
  ·obtain⟨⟨z,h6,h7⟩,_⟩:=hpt _ a h4;refine⟨.a z, ?_,h7⟩;rw[Dn,Zc1 (Kpa _) (by rw[Kua,if_pos (by omega)];exact h6)]
theorem Yoa {P:Program}{f g:FuncId}{n:Nat}{fn:Func}{Φ:List (Fx P)}{H:List (Nat×Hn)}{an:An}(hm:P.follows .mixedOrders=true){as:List GArg}{rs:List (Bool×Ty)}{F:Tp (Co as)->Option (Tp (E4 as rs))}(hf:P.funcs[f]? = some fn) (hk:okF P fn (n+1) (okG as&&Nat.ble n as.length)=true) (h:∀x,fnH Φ H (sOf P fn) an (iOf P fn) n g as rs x=F x) (x:Tp (Co as)) (y:Tp (E4 as rs)) (hy:F x=some y) :
  Wg (fun ws w R=>Calls P f (Hl n g ws).toArray w R) (Ay as x) (J2 as rs (De _ y)):=by
 obtain⟨a,b,c,d⟩:=Zee hm hk;simp only[Ke]at d;obtain⟨co,hb,hs⟩:=Wv a;obtain⟨caps,k1,k2,k3⟩:=Ylv n g as x d.1 (Kba d.2);refine Yn8 hf hb b (Kba c) (by rw[Zg7];exact Kba d.2) k1 ?_;refine Ih hm (sOf P fn) an k2 k3 ((h x).trans hy) ?_ co hs;intro e X' S' g1 g2 g3 g4;cases e with
 | ret=>exact Zdy (E:=(T6 n g as x).env) d.1 g1 g2 g3 g4
 | normal=>exact Zdy (E:=(T6 n g as x).env) d.1 g1 g2 g3 g4
 | _=>simp at g4
end Go.Vs
namespace Go.Vs
variable [Glb]
theorem Ykn {sz0:Nat}{es:List (List D)}{p:Af}{i c:Nat}{m:Nat×List (List D)}{e:List D}(hn:Am sz0 es p=some m) (he:m.2[i]? = some e) (hc:c<e.length):Mx sz0 es p i c=true:=by
 simp [Mx,hn,he,hc]
theorem Yof (l:List (List UInt8)) (i:Nat) (c:List UInt8) (h:i<l.length):Cz (sD l) [] i 0 (.sl 1 (bD c))=sD (l.set i c):=by
 simp only[Cz,Dg,Ex,Zwd h,Kpf];simp [sD,Kvd]
theorem Zu4 (i c:Nat):([(i,c)] <+: ([]:Af))=False:=by simp
def C6 (secs:List (List UInt8)) (cache:List Wr) (fuse:Int):Bool:=decide ((1<=secs.length/\secs.length<=64)/\cache.length<=40/\(-1<=fuse/\fuse<=1000)/\(∀b∈secs,b.length<=120)/\∀w∈cache,0<=w.1/\w.1<=(secs.length:Int)-1/\w.2.length<=120)
end Go.Vs
namespace Go.Vs
variable [Glb]
end Go.Vs
namespace Go.Vs
variable [Glb]
def opF (fuse:Int):Int:=if fuse=0 then -1 else if 0<fuse then fuse-1 else fuse
def opD (fuse:Int) (down:Bool):Bool:=if fuse=0 then true else down
def opR (fuse:Int):Bool:=!(fuse==0)
theorem Zeg {fuse:Int}{down:Bool}(h:fuse=0):opF fuse=-1/\opD fuse down=true/\opR fuse=false:=by
 subst h;exact⟨rfl,rfl,rfl⟩
theorem Zef {fuse:Int}{down:Bool}(h:¬fuse=0):opD fuse down=down/\opR fuse=true:=by
 refine⟨if_neg h, ?_⟩;simp [opR,h]
def wrC (secs:List (List UInt8)) (cache:List Wr) (fuse:Int) (down:Bool) (n:Int) (b:List UInt8):List Wr×Int×Bool :=
 if down=true\/¬(0<=n/\n<=(secs.length:Int)-1)\/120<b.length\/40<=cache.length then (cache,fuse,down) else if fuse=0 then (cache,-1,true) else (cache++[(n,b)],opF fuse,down)
theorem Pz {secs:List (List UInt8)}{cache:List Wr}{fuse:Int}{down:Bool}{n:Int}{b:List UInt8}(h:down=true\/¬(0<=n/\n<=(secs.length:Int)-1)\/120<b.length\/40<=cache.length):wrC secs cache fuse down n b=(cache,fuse,down):=if_pos h
theorem Zy6 {secs:List (List UInt8)}{cache:List Wr}{fuse:Int}{down:Bool}{n:Int}{b:List UInt8}(h:¬(down=true\/¬(0<=n/\n<=(secs.length:Int)-1)\/120<b.length\/40<=cache.length)) (hf:fuse=0):wrC secs cache fuse down n b=(cache,-1,true):=by
 rw[wrC,if_neg h,if_pos hf]
theorem Zy5 {secs:List (List UInt8)}{cache:List Wr}{fuse:Int}{down:Bool}{n:Int}{b:List UInt8}(h:¬(down=true\/¬(0<=n/\n<=(secs.length:Int)-1)\/120<b.length\/40<=cache.length)) (hf:¬fuse=0):wrC secs cache fuse down n b=(cache++[(n,b)],opF fuse,down):=by
 rw[wrC,if_neg h,if_neg hf]
def Zfu (secs:List (List UInt8)) (cache:List Wr) (fuse:Int) (down:Bool) (n:Int) (b:List UInt8):List Wr×Int×Bool:=if C6 secs cache fuse=true then wrC secs cache fuse down n b else (cache,fuse,down)
theorem Zy7 {secs:List (List UInt8)}{cache:List Wr}{fuse:Int}{down:Bool}{n:Int}{b:List UInt8}(h:C6 secs cache fuse=true):Zfu secs cache fuse down n b=wrC secs cache fuse down n b:=if_pos h
theorem Yr1 {secs:List (List UInt8)}{cache:List Wr}{fuse:Int}{down:Bool}{n:Int}{b:List UInt8}(h:C6 secs cache fuse=false):Zfu secs cache fuse down n b=(cache,fuse,down):=by rw[Zfu,h];rfl
theorem Mu {secs:List (List UInt8)}{cache:List Wr}{fuse:Int}(h:C6 secs cache fuse=true):(1<=secs.length/\secs.length<=64)/\cache.length<=40/\(-1<=fuse/\fuse<=1000)/\(∀b∈secs,b.length<=120)/\∀w∈cache,0<=w.1/\w.1<=(secs.length:Int)-1/\w.2.length<=120:=of_decide_eq_true h
end Go.Vs
namespace Go.Vs
variable [Glb]
theorem Ypw {S:St}{K:KW}{x v:Opd}{r i c sz0 ry iy cy szy sz n:Nat}{p:Af}{es ys esy:List (List D)}{m:Nat×List (List D)}{e ey:List D}(hx:S.opd x=.a (.c (.pe r p i c))) (hv:S.opd v=.a (.c (.rf ry [(iy,cy)] sz 0 n))) (hr:get S.roots r=some (.tr sz0 es)) (hy:get S.roots ry=some (.tr szy esy)) (hey:esy[iy]? = some ey) (hcy:ey[cy]? = some (.sl sz ys)) (hny:n=ys.length) (hne:ry≠r) (hn:Am sz0 es p=some m) (he:m.2[i]? = some e) (hc:c<e.length) (hfix:S.fix<=r)
  (hK:K .un [(r,p++[(i,c)])] (put (Rc r (p++[(i,c)]) (put S.roots ry (.tr szy (Cz esy [] iy cy .hole)))) r (.tr sz0 (Cz es p i c (.sl sz ys)))) S.next):wr S K (.store 1 x v):=by
 subst hny;simp only[wr,hx,hv];refine⟨[.rf ry [(iy,cy)] sz 0 ys.length],rfl,rfl,e, ?_,by omega,⟨sz0,es,hr⟩,(_,_), ?_,hK⟩
 ·simp only[St.node,hr,hn,Kqa];exact he
 ·have hr1:get (put S.roots ry (.tr szy (Cz esy [] iy cy .hole))) r=some (.tr sz0 es):=by rw[Aw,if_neg (fun h=>hne h),hr]
  have hh:Mx sz0 es p i c=true:=Ykn hn he hc;have hnd:Am szy esy [(iy,cy)]=some (sz,ys):=by simp only[Am,hey,hcy,Kqa]
  have hcut:Qs esy [(iy,cy)]=Cz esy [] iy cy .hole:=rfl;simp only[Gx,A8,C0,hy,hnd,and_self,Kd,if_true,Khc,D4,hcut,hr1,Ki,Kca,hh,hfix,Kp]
def wH (l:List Wr) (i:Nat):List (List D):=(l.take i).map (fun w=>[.lf (.int .i64 w.1),.hole])++wD (l.drop i)
@[simp] theorem Ysw (l:List Wr) (i:Nat):(wH l i).length=l.length:=by simp [wH];omega
theorem Vb {l:List Wr}{i:Nat}(h:i<l.length):(wH l i)[i]? = some [.lf (.int .i64 l[i].1),.sl 1 (bD l[i].2)]:=by
 have hl:((l.take i).map (fun w=>[D.lf (.int .i64 w.1),.hole])).length=i:=by simp;omega
 rw[wH,Kga (by omega),hl,Kme,Yrs (by simp;omega)];simp
theorem Yru {l:List Wr}{i:Nat}(h:i<l.length):Cz (wH l i) [] i 1 .hole=wH l (i+1):=by
 have hl:((l.take i).map (fun w=>[D.lf (.int .i64 w.1),.hole])).length=i:=by simp;omega
 simp only[Cz,Dg,Ex,Vb h,List.set_cons_succ,Kpf];rw[wH,wH,Kpe _ _ (by omega),hl,Kme,Kfc h,Kec h];simp only[wD,wE,Kc,Kpf,Kv,Ksb,Kwa,Kff]
def flL (s:List (List UInt8)) (l:List Wr):List (List UInt8):=l.foldl (fun s w=>s.set w.1.toNat w.2) s
@[simp] theorem Zr3 (s:List (List UInt8)) (l:List Wr):(flL s l).length=s.length:=by
 induction l generalizing s with
 | nil=>rfl
 | cons w l ih=>simp only[flL,Kod]at ih ⊢;rw[ih];simp
theorem Zr5 {s:List (List UInt8)}{l:List Wr}{i k:Nat}(h:i<l.length) (hk:l[i].1=(k:Int)):flL s (l.take (i+1))=(flL s (l.take i)).set k l[i].2:=by
 rw[Kec h];simp only[flL,Klf,Kod,List.foldl_nil,hk,Kmc]
theorem Zr4 {m:Nat}:∀{l:List Wr}{s:List (List UInt8)},(∀b∈s,b.length<=m)->(∀w∈l,w.2.length<=m)->∀b∈flL s l,b.length<=m
 | [],s,hs,hl=>hs
 | w::l,s,hs,hl=>by
  refine Zr4 (l:=l) (s:=s.set w.1.toNat w.2) (fun b hb=>?_) (fun x hx=>hl x (Kl _ hx));rcases List.mem_or_eq_of_mem_set hb with h|h
  ·exact hs b h
  ·rw[h];exact hl w Kn
abbrev Dv:=List (List UInt8)×List Wr×Int×Bool
def flC (secs:List (List UInt8)) (cache:List Wr) (fuse:Int) (down:Bool):Dv :=
 if down=true then (secs,cache,fuse,down) else if fuse=0 then (secs,cache,-1,true) else (flL secs cache,[],opF fuse,down)
theorem Zrz {secs:List (List UInt8)}{cache:List Wr}{fuse:Int}{down:Bool}(h:down=true):flC secs cache fuse down=(secs,cache,fuse,down):=if_pos h
theorem Zr1 {secs:List (List UInt8)}{cache:List Wr}{fuse:Int}(h:fuse=0):flC secs cache fuse false=(secs,cache,-1,true):=by rw[flC,if_neg (by decide),if_pos h]
theorem Zr0 {secs:List (List UInt8)}{cache:List Wr}{fuse:Int}(h:¬fuse=0):flC secs cache fuse false=(flL secs cache,[],opF fuse,false):=by rw[flC,if_neg (by decide),if_neg h]
def Zdd (secs:List (List UInt8)) (cache:List Wr) (fuse:Int) (down:Bool):Dv:=if C6 secs cache fuse=true then flC secs cache fuse down else (secs,cache,fuse,down)
theorem Zr2 {secs:List (List UInt8)}{cache:List Wr}{fuse:Int}{down:Bool}(h:C6 secs cache fuse=true):Zdd secs cache fuse down=flC secs cache fuse down:=if_pos h
theorem Yfk {secs:List (List UInt8)}{cache:List Wr}{fuse:Int}{down:Bool}(h:C6 secs cache fuse=false):Zdd secs cache fuse down=(secs,cache,fuse,down):=by rw[Zdd,h];rfl
end Go.Vs
namespace Go.Vs
variable [Glb]
def SmD (x:Dv):Prop:=x.1.length<=1048576/\(∀b∈x.1,b.length<=1048576)/\x.2.1.length<=1048577/\∀w∈x.2.1,w.2.length<=1048576
def Ysk (n:Int) (i:Nat):Bool:=decide (i<30)&&(Int.toNat n / 2^i%2==1)
end Go.Vs
namespace Go.Vs
variable [Glb]
def wP (p:Nat->Bool):Nat->List Wr->List (List D)
 | _,[]=>[]
 | i,w::l=>[.lf (.int .i64 w.1),if p i then .hole else .sl 1 (bD w.2)]::wP p (i+1) l
@[simp] theorem Yrv (p:Nat->Bool):∀(l:List Wr) (i:Nat),(wP p i l).length=l.length
 | [],_=>rfl
 | w::l,i=>by simp only[wP,Kg,Yrv p l]
end Go.Vs
namespace Go.Vs
variable [Glb]
end Go.Vs
namespace Go.Vs
def Zge (P:Program) (W:World) (n:String) (d:DataW Unit):Prop :=
 ∃g t cs fuel p,P.globalNamed n=some g/\(P.globals[g]?).map (·.type)=some t/\W.var? P n=some cs/\DataW.trod (fun _=>()) P W 0 (fun _=>true) false fuel t cs.toList=some (d,p)
theorem Zlr {P:Program}{W:World}{n:String}{d:DataW Unit}:∀{l:List (String×DataW Unit)}{ps:List MemPlace},DataW.LaidVars P W l ps->(n,d)∈l->Zge P W n d
 | [],_,_,hm=>by cases hm
 | (m,e)::l,ps,h,hm=>by
  obtain⟨g,t,cs,fuel,p,q,h1,h2,h3,h4,h5,_⟩:=h;cases hm with
  | head=>exact⟨g,t,cs,fuel,p,h1,h2,h3,h4⟩
  | tail _ hm=>exact Zlr h5 hm
def Jl (b:UInt8):DataW Unit:=.lit (.int .u8 b.toNat)
def Zxo (bs:List UInt8):DataW Unit:=.agg (bs.map Jl)
def Ya:List UInt8->List (DataW Unit)
 | a::b::l=>.agg [Jl a,Jl b]::Ya l
 | _=>[]
theorem Zuz:∀(l:List UInt8) (i:Nat) (a b:UInt8),l[2*i]? = some a->l[2*i+1]? = some b->(Ya l)[i]? = some (.agg [Jl a,Jl b])
 | [],i,a,b,h,_=>by simp at h
 | [x],i,a,b,h,k=>by cases i<;>simp at k
 | x::y::l,0,a,b,h,k=>by
  simp only[Nat.mul_zero,Ku,Ka]at h;simp only[Nat.mul_zero,Kr,Kla,Ku,Ka]at k;subst h k;rfl
 | x::y::l,i+1,a,b,h,k=>by
  rw[show 2*(i+1)=2*i+1+1 by omega,Kla,Kla]at h;rw[show 2*(i+1)+1=2*i+1+1+1 by omega,Kla,Kla]at k;exact Zuz l i a b h k
theorem Zpk {W:World}{g o:Nat}{v:Value}(h:W.cell? ⟨g,o,none⟩=some v):g<W.heap.size:=by
 rcases Kac g W.heap.size with k|k
 ·exact k
 ·simp only[World.cell?,Kee k]at h;cases h
theorem Zk3 {P:Program}{W:World}{fuel:Nat}{e:TypeId}{cs:List Value}{i:Nat}{b:UInt8}{x:DataW Unit×List MemPlace}(he:P.underlying e=some (.int .u8)) (h:DataW.trod (fun _=>()) P W 0 (fun _=>true) false fuel e ((cs.drop i).take 1)=some x) (hx:x.1=Jl b):cs[i]? = some (.int .u8 b.toNat):=by
 obtain⟨z,e1,e2,_⟩:=DataW.trod_int he h;rw[e2]at hx;simp only[Jl,DataW.lit.injEq,Lit.int.injEq,true_and]at hx;subst hx;have h0:((cs.drop i).take 1)[0]? = some (.int .u8 (b.toNat:Int)):=by rw[e1];rfl
 simpa using h0
theorem Yqm {P:Program}{W:World}{n:String}{g t e N:Nat}{bs:List UInt8}(hg:P.globalNamed n=some g) (hty:(P.globals[g]?).map (·.type)=some t) (ht:P.underlying t=some (.array N e)) (he:P.underlying e=some (.int .u8)) (hc:P.cellsOf e=1) (hr:Zge P W n (Zxo bs)) :
  ∀(o:Nat) (y:UInt8),bs[o]? = some y->g<W.heap.size/\W.cell? ⟨g,o,none⟩=some (.int .u8 y.toNat):=by
 obtain⟨g',t',cs,fuel,p,hg',hty',hv,hd⟩:=hr;rw[hg]at hg';cases hg';rw[hty]at hty';cases hty';obtain⟨xs,m,_,ex,_,hl,hel⟩:=DataW.trod_array ht hd;have e3:xs.map (·.1)=bs.map Jl:=(DataW.agg.inj (Prod.mk.inj ex).1).symm;intro o y hy;have hlen:xs.length=bs.length:=by simpa using congrArg List.length e3
 have ho:o<bs.length:=(Kea.1 hy).1;have hE:=hel o (by omega);rw[hc,Kcd,Kq (by omega)]at hE;have e4:(xs.map (·.1))[o]? = (bs.map Jl)[o]?:=by rw[e3]
 rw[Kaa,Kaa,Kq (by omega),hy]at e4;simp only[Kia,Ka]at e4;have h1:=Zk3 he hE e4;have h2:W.cell? ⟨g,o,none⟩=some (.int .u8 y.toNat):=by rw[World.var?_cell hg hv o];simpa using h1
 exact⟨Zpk h2,h2⟩
theorem Ynn {P:Program}{W:World}{n:String}{g t s N:Nat}{f0 f1:Field}{bs:List UInt8}(hg:P.globalNamed n=some g) (hty:(P.globals[g]?).map (·.type)=some t) (ht:P.underlying t=some (.array N s)) (hs:P.underlying s=some (.struct #[f0,f1])) (h0:P.underlying f0.type=some (.int .u8)) (h1:P.underlying f1.type=some (.int .u8)) (c0:P.cellsOf f0.type=1) (c1:P.cellsOf f1.type=1) (o0:f0.offset=0) (o1:f1.offset=1) (hc:P.cellsOf s=2) (hN:bs.length=2*N) (hr:Zge P W n (.agg (Ya bs))) :
  ∀(o:Nat) (y:UInt8),bs[o]? = some y->g<W.heap.size/\W.cell? ⟨g,o,none⟩=some (.int .u8 y.toNat):=by
 obtain⟨g',t',cs,fuel,p,hg',hty',hv,hd⟩:=hr;rw[hg]at hg';cases hg';rw[hty]at hty';cases hty';obtain⟨xs,m,_,ex,_,hl,hel⟩:=DataW.trod_array ht hd;have e3:xs.map (·.1)=Ya bs:=(DataW.agg.inj (Prod.mk.inj ex).1).symm;intro o y hy;have ho:o<bs.length:=(Kea.1 hy).1
 -- the pair it stands in
 have key:∀i,i<N->∃a b:UInt8,bs[2*i]? = some a/\bs[2*i+1]? = some b/\cs.toList[2*i]? = some (.int .u8 a.toNat)/\cs.toList[2*i+1]? = some (.int .u8 b.toNat):=by
  intro i hi;refine⟨bs[2*i]'(by omega),bs[2*i+1]'(by omega),Kq _,Kq _, ?_⟩;have hE:=hel i hi;rw[hc,Kq (by omega)]at hE;have hp:=Zuz bs i _ _ (Kq (show 2*i<bs.length by omega)) (Kq (show 2*i+1<bs.length by omega));rw[<-e3,Kaa,Kq (by omega)]at hp;simp only[Kia,Ka]at hp;obtain⟨ys,k,_,ey,_,_,hf⟩:=DataW.trod_struct hs hE;have hy1:ys.map (·.1)=[Jl (bs[2*i]'(by omega)),Jl (bs[2*i+1]'(by omega))]:=by
   rw[ey]at hp;exact DataW.agg.inj hp
  match ys,hy1 with
  | [u,v],hy1 =>
   simp only[Kc,Ksb,List.cons.injEq,and_true]at hy1;have q0:=hf 0 f0 rfl;have q1:=hf 1 f1 rfl;rw[o0,c0]at q0;rw[o1,c1]at q1;have r0:=Zk3 h0 q0 hy1.1;have r1:=Zk3 h1 q1 hy1.2;rw[Kua,if_pos (by omega),Kva]at r0 r1;rw[show i*2+0=2*i by omega]at r0;rw[show i*2+1=2*i+1 by omega]at r1;exact⟨r0,r1⟩
 obtain⟨a,b,k1,k2,k3,k4⟩:=key (o / 2) (by omega);have h2:W.cell? ⟨g,o,none⟩=some (.int .u8 y.toNat):=by
  rw[World.var?_cell hg hv o,<-Kcf];rcases (show o=2*(o / 2)\/o=2*(o / 2)+1 by omega) with h|h
  ·rw[<-h]at k1 k3;rw[hy]at k1;cases k1;exact k3
  ·rw[<-h]at k2 k4;rw[hy]at k2;cases k2;exact k4
 exact⟨Zpk h2,h2⟩
theorem Yfv {bs cs:List UInt8}{W:World}(h0:∀(o:Nat) (y:UInt8),bs[o]? = some y->0<W.heap.size/\W.cell? ⟨0,o,none⟩=some (.int .u8 y.toNat)) (h1:∀(o:Nat) (y:UInt8),cs[o]? = some y->1<W.heap.size/\W.cell? ⟨1,o,none⟩=some (.int .u8 y.toNat)) :
  ∀b o v,@Fa ⟨[(0,bs),(1,cs)]⟩ b o=some v->b<W.heap.size/\W.cell? ⟨b,o,none⟩=some v:=by
 intro b o v h
 match b,h with
 | 0,h =>
  have e:@Fa ⟨[(0,bs),(1,cs)]⟩ 0 o=(match bs[o]? with|some y=>some (.int .u8 y.toNat)|none=>none):=rfl;rw[e]at h;split at h
  ·rename_i y hy;cases h;exact h0 o y hy
  ·cases h
 | 1,h =>
  have e:@Fa ⟨[(0,bs),(1,cs)]⟩ 1 o=(match cs[o]? with|some y=>some (.int .u8 y.toNat)|none=>none):=rfl;rw[e]at h;split at h
  ·rename_i y hy;cases h;exact h1 o y hy
  ·cases h
 | b+2,h =>
  have e:@Fa ⟨[(0,bs),(1,cs)]⟩ (b+2) o=none:=rfl;rw[e]at h;cases h
end Go.Vs
