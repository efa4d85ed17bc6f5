import Derived.OpenShut
import Derived.LaidMore
import Derived.Test.YtmfmjngkbddenaaGreatDoorVsW5
import Derived.Test.YtmfmjngkbddenaaGreatDoorVsW2
set_option linter.all false
namespace Go.Vs
variable [Glb]
def Sh (g:FuncId):Nat->Nat->List XA->List (Nat×Nat×XV)
 | 0,i,l=>[(i,0,.fn g l)]
 | n+1,i,a::l=>(i,0,.a a)::Sh g n (i+1) l
 | _+1,_,[]=>[]
def Vl (n:Nat) (g:FuncId) (as:List GArg) (x:Tp (C1 as)):XSt :=
 ⟨Sh g n 0 (Gk as (inL (A4 as x) 0 (A8 (A4 as x)+Ch as)).1 (A8 (A4 as x))),(inL (A4 as x) 0 (A8 (A4 as x)+Ch as)).2.1++Ep as (inL (A4 as x) 0 (A8 (A4 as x)+Ch as)).1 (A8 (A4 as x)),(inL (A4 as x) 0 (A8 (A4 as x)+Ch as)).2.2,1,A8 (A4 as x)+Ch as⟩
noncomputable def fnH {P:Program}(Φ:List (Fx P)) (H:List (Nat×Hn)) (s:Stm) (an:An) (is:List I) (n:Nat) (g:FuncId) (as:List GArg) (rs:List (Bool×Ty)) (x:Tp (C1 as)):Option (Tp (Fj as rs)) :=
 C8 Φ H s an (Vl n g as x) fun e X'=>match e with
  | .ret=>Vr as rs x X' is
  | .normal=>Vr as rs x X' is
  | _=>none
theorem Ztz {s:Nat}:∀(l:List XA) (k i:Nat) (a:XA),l[i]? = some a->lk (L8 s k l) (k+i)=some (s,.a a)
 | [],k,i,a,h=>by simp at h
 | b::l,k,0,a,h=>by
  simp only[Kp,Ka]at h;subst h;simp only[L8];rw[Bf,if_pos (by simp only;omega)]
 | b::l,k,i+1,a,h=>by
  have:=Ztz (s:=s) l (k+1) i a (by simpa using h);simp only[L8];rw[Bf,if_neg (by simp only;omega)]
  rwa [show k+(i+1)=k+1+i by omega]
theorem Zlw {g:FuncId}:∀(n i:Nat) (l:List XA){t st:Nat}{v:XV},lk (Sh g n i l) t=some (st,v)->st=0/\((t=i+n/\n<=l.length/\v=.fn g (l.drop n))\/(i<=t/\t<i+n/\∃a,v=.a a/\l[t-i]? = some a))
 | 0,i,l,t,st,v,h=>by
  simp only[Sh]at h;rw[Bf]at h;split at h
  ·rename_i e;simp only[Ka,Kb]at h;exact⟨h.1.symm,.inl ⟨by simp only at e;omega,Koa _,by rw[<-h.2];rfl⟩⟩
  ·simp [lk]at h
 | n+1,i,[],t,st,v,h=>by simp [Sh,lk]at h
 | n+1,i,a::l,t,st,v,h=>by
  simp only[Sh]at h;rw[Bf]at h;split at h
  ·rename_i e;simp only at e;subst e;simp only[Ka,Kb]at h;exact⟨h.1.symm,.inr ⟨Kf _,by omega,a,h.2.symm,by simp⟩⟩
  ·rename_i e;simp only at e;obtain⟨h0,h1⟩:=Zlw n (i+1) l h;refine⟨h0, ?_⟩;rcases h1 with ⟨h1,h2,h3⟩|⟨h1,h2,b,h3,h4⟩
   ·exact .inl ⟨by omega,by simp;omega,by simpa using h3⟩
   ·refine .inr ⟨by omega,by omega,b,h3, ?_⟩;rw[show t-i=(t-(i+1))+1 by omega,Ky];exact h4
theorem Zvn:∀(as:List GArg) (cs:List XC) (b:Nat),(Gk as cs b).length=as.length
 | [],_,_=>rfl
 | a::as,cs,b=>by
  simp only[Gk];cases a.ptr<;>simp only[Ke,Zvn as]
theorem Zrv {R:XRs}:∀(vs:List V) (L:List XA),vs.length=L.length->(∀(i:Nat) (a:XA),L[i]? = some a->∃z,vs[i]? = some (V.a z)/\WkA z (cA R a))->∃caps,vs=caps.map V.a/\Ab WkA caps (L.map (cA R))
 | [],[],_,_=>⟨[],rfl,trivial⟩
 | [],_::_,h,_=>by simp at h
 | _::_,[],h,_=>by simp at h
 | v::vs,a::L,h,hp=>by
  obtain⟨caps,h1,h2⟩:=Zrv vs L (by simpa using h) fun i b hb=>by simpa using hp (i+1) b (by simpa using hb)
  obtain⟨z,h3,h4⟩:=hp 0 a rfl;simp only[Kp,Ka]at h3;exact⟨z::caps,by rw[h3,h1];rfl,h4,h2⟩
theorem Zjl:∀(as:List GArg) (x:Tp (C1 as)),(A2 as x).length=as.length
 | [],_=>rfl
 | a::as,x=>by simp only[A2,Ke,Zjl as]
theorem Ype (n:Nat) (g:FuncId) (as:List GArg) (x:Tp (C1 as)) (ho:okG as=true) (hn:n<=as.length):∃caps,(Bl (A2 as x)).1.drop n=caps.map V.a/\XOk (Vl n g as x)/\SimX (Vl n g as x) ⟨Hu 0 ((Bl (A2 as x)).1.take n)++[(n,.fn g caps)],(Bl (A2 as x)).2.1,(Bl (A2 as x)).2.2,Bz (A2 as x)⟩:=by
 obtain⟨h1,h2⟩:=Zmi as x ho;generalize hL:Gk as (inL (A4 as x) 0 (A8 (A4 as x)+Ch as)).1 (A8 (A4 as x))=L;have hLl:L.length=as.length:=by rw[<-hL];exact Zvn _ _ _
 have hvl:(Bl (A2 as x)).1.length=as.length:=by rw[<-Zjl as x];exact Zfr _ _ _
 have henv:(B7 as x).env=L8 0 0 L:=by rw[<-hL];rfl
 have hpt:∀(i:Nat) (a:XA),L[i]? = some a->(∃z,(Bl (A2 as x)).1[i]? = some (V.a z)/\WkA z (cA (B7 as x).roots a))/\okA (B7 as x).roots (B7 as x).next (B7 as x).stamp a:=by
  intro i a hi;have hl:lk (B7 as x).env i=some (0,.a a):=by
   rw[henv];have:=Ztz (s:=0) L 0 i a hi
   rwa [Km]at this
  refine⟨?_,(h1.env i 0 _ hl).2⟩;rcases h2.env i 0 _ hl with h|⟨y,hy,hw⟩
  ·cases h
  ·obtain⟨_,h3⟩:=Yz hy;rw[Kxc]at h3;cases y with
   | a z=>exact⟨z,h3,hw⟩
   | _=>exact hw.elim
 obtain⟨caps,hc1,hc2⟩:=Zrv (R:=(B7 as x).roots) ((Bl (A2 as x)).1.drop n) (L.drop n) (by simp [hLl,hvl]) fun i a hi=>by
  rw[Kdb]at hi ⊢;exact (hpt _ a hi).1
 have hE:(Vl n g as x).env=Sh g n 0 L:=by rw[<-hL];rfl
 refine⟨caps,hc1,⟨h1.ids, ?_,h1.box,h1.fixle⟩,⟨h2.next,h2.fix, ?_,h2.roots⟩⟩
 ·intro t st v hl;rw[hE]at hl;obtain⟨rfl,h|⟨_,_,a,rfl,h4⟩⟩:=Zlw n 0 L hl
  ·obtain⟨_,_,rfl⟩:=h;refine⟨Nat.one_pos,fun a ha=>?_⟩;obtain⟨i,hi⟩:=Krc (Knb ha);exact (hpt i a hi).2
  ·exact⟨Nat.one_pos,(hpt _ a h4).2⟩
 ·intro t st v hl;rw[hE]at hl;right;obtain⟨rfl,h|⟨_,h5,a,rfl,h4⟩⟩:=Zlw n 0 L hl
  ·obtain⟨rfl,_,rfl⟩:=h;refine⟨.fn g caps, ?_,rfl,hc2⟩;rw[D6];cases hq:get (Hu 0 ((Bl (A2 as x)).1.take n)) (0+n) with
   | some y =>
    exfalso;obtain⟨_,h3⟩:=Yz hq;have:=(Kja.1 h3).1;simp at this;omega
   | none=>simp only[get];rw[if_pos (by omega)]
  ·obtain⟨⟨z,h6,h7⟩,_⟩:=hpt _ a h4;refine⟨.a z, ?_,h7⟩;rw[D6,Zex (Koa _) (by rw[Kza,if_pos (by omega)];exact h6)]
theorem Yr4 {P:Program}{f g:FuncId}{n:Nat}{fn:Func}{Φ:List (Fx P)}{H:List (Nat×Hn)}{an:An}(hm:P.follows .mixedOrders=true){as:List GArg}{rs:List (Bool×Ty)}{F:Tp (C1 as)->Option (Tp (Fj as rs))}(hf:P.funcs[f]? = some fn) (hk:okF P fn (n+1) (okG as&&Nat.ble n as.length)=true) (h:∀x,fnH Φ H (sOf P fn) an (iOf P fn) n g as rs x=F x) (x:Tp (C1 as)) (y:Tp (Fj as rs)) (hy:F x=some y) :
  X6 (fun ws w R=>Calls P f (Ib n g ws).toArray w R) (A2 as x) (Lr as rs (Du _ y)):=by
 obtain⟨a,b,c,d⟩:=Zgf hm hk;simp only[Kd]at d;obtain⟨co,hb,hs⟩:=Us a;obtain⟨caps,k1,k2,k3⟩:=Ype n g as x d.1 (Kea d.2);refine Yr2 hf hb b (Kea c) (by rw[Zjl];exact Kea d.2) k1 ?_;refine Ja hm (sOf P fn) an k2 k3 ((h x).trans hy) ?_ co hs;intro e X' S' g1 g2 g3 g4;cases e with
 | ret=>exact Zfx (E:=(Vl n g as x).env) d.1 g1 g2 g3 g4
 | normal=>exact Zfx (E:=(Vl n g as x).env) d.1 g1 g2 g3 g4
 | _=>simp at g4
end Go.Vs
namespace Go.Vs
variable [Glb]
theorem Yn0 {sz0:Nat}{es:List (List D)}{p:Ag}{i c:Nat}{m:Nat×List (List D)}{e:List D}(hn:Am sz0 es p=some m) (he:m.2[i]? = some e) (hc:c<e.length):N2 sz0 es p i c=true:=by
 simp [N2,hn,he,hc]
theorem Yr9 (l:List (List UInt8)) (i:Nat) (c:List UInt8) (h:i<l.length):Db (sD l) [] i 0 (.sl 1 (bD c))=sD (l.set i c):=by
 simp only[Db,Dw,Fd,Zan h,Ksf];simp [sD,Khe]
theorem Zxs (i c:Nat):([(i,c)] <+: ([]:Ag))=False:=by simp
def C2 (secs:List (List UInt8)) (cache:List Wr) (fuse:Int):Bool:=decide ((1<=secs.length/\secs.length<=64)/\cache.length<=40/\(-1<=fuse/\fuse<=1000)/\(∀b∈secs,b.length<=120)/\∀w∈cache,0<=w.1/\w.1<=(secs.length:Int)-1/\w.2.length<=120)
end Go.Vs
namespace Go.Vs
variable [Glb]
def rdL (l:List Wr) (n:Int) (b:List UInt8):List UInt8:=l.foldl (fun b w=>if w.1=n then w.2 else b) b
theorem Zxx {l:List Wr}{n:Int}{b:List UInt8}{i:Nat}(h:i<l.length) (hw:l[i].1=n):rdL (l.take (i+1)) n b=l[i].2:=by
 rw[Kzb h];simp only[rdL,Kfe,Kmd,Kof,hw,if_true]
theorem Zxy {l:List Wr}{n:Int}{b:List UInt8}{i:Nat}(h:i<l.length) (hw:¬l[i].1=n):rdL (l.take (i+1)) n b=rdL (l.take i) n b:=by
 rw[Kzb h];simp only[rdL,Kfe,Kmd,Kof,hw,if_false]
theorem Yrh (l:List Wr) (n:Int) (b:List UInt8):rdL l n b=b\/∃w∈l,rdL l n b=w.2:=by
 induction l generalizing b with
 | nil=>exact .inl rfl
 | cons w l ih =>
  have e:rdL (w::l) n b=rdL l n (if w.1=n then w.2 else b):=rfl;rw[e];rcases ih (if w.1=n then w.2 else b) with h|⟨x,hx,h⟩
  ·rw[h];split
   ·exact .inr ⟨w,Ks,rfl⟩
   ·exact .inl rfl
  ·exact .inr ⟨x,Ko _ hx,h⟩
def Qu (secs:List (List UInt8)) (cache:List Wr) (fuse n:Int):List UInt8:=if C2 secs cache fuse=true/\0<=n/\n<=(secs.length:Int)-1 then rdL cache n (secs.getD n.toNat []) else []
theorem Zxz {secs:List (List UInt8)}{cache:List Wr}{fuse:Int}{k:Nat}(h:C2 secs cache fuse=true) (hk:k<secs.length):Qu secs cache fuse k=rdL cache k secs[k]:=by
 rw[Qu,if_pos ⟨h,by omega,by omega⟩,Kxb];simp [Kig,hk]
theorem Zgq {secs:List (List UInt8)}{cache:List Wr}{fuse n:Int}(h:¬(C2 secs cache fuse=true/\0<=n/\n<=(secs.length:Int)-1)):Qu secs cache fuse n=[]:=if_neg h
theorem Yri {secs:List (List UInt8)}{cache:List Wr}{fuse n:Int}{m:Nat}(hs:∀b∈secs,b.length<=m) (hc:∀w∈cache,w.2.length<=m):(Qu secs cache fuse n).length<=m:=by
 unfold Qu;split
 ·rename_i h;rcases Yrh cache n (secs.getD n.toNat []) with e|⟨w,hw,e⟩
  ·rw[e];have hk:n.toNat<secs.length:=by omega
   have:secs.getD n.toNat []=secs[n.toNat]:=by simp [Kig,hk]
   rw[this];exact hs _ (Kcb hk)
  ·rw[e];exact hc w hw
 ·simp
end Go.Vs
namespace Go.Vs
variable [Glb]
def opF (fuse:Int):Int:=if fuse=0 then -1 else if 0<fuse then fuse-1 else fuse
def opD (fuse:Int) (down:Bool):Bool:=if fuse=0 then true else down
def opR (fuse:Int):Bool:=!(fuse==0)
theorem Zgh {fuse:Int}{down:Bool}(h:fuse=0):opF fuse=-1/\opD fuse down=true/\opR fuse=false:=by
 subst h;exact⟨rfl,rfl,rfl⟩
theorem Zgg {fuse:Int}{down:Bool}(h:¬fuse=0):opD fuse down=down/\opR fuse=true:=by
 refine⟨if_neg h, ?_⟩;simp [opR,h]
def wrC (secs:List (List UInt8)) (cache:List Wr) (fuse:Int) (down:Bool) (n:Int) (b:List UInt8):List Wr×Int×Bool :=
 if down=true\/¬(0<=n/\n<=(secs.length:Int)-1)\/120<b.length\/40<=cache.length then (cache,fuse,down) else if fuse=0 then (cache,-1,true) else (cache++[(n,b)],opF fuse,down)
theorem Q5 {secs:List (List UInt8)}{cache:List Wr}{fuse:Int}{down:Bool}{n:Int}{b:List UInt8}(h:down=true\/¬(0<=n/\n<=(secs.length:Int)-1)\/120<b.length\/40<=cache.length):wrC secs cache fuse down n b=(cache,fuse,down):=if_pos h
theorem Ycm {secs:List (List UInt8)}{cache:List Wr}{fuse:Int}{down:Bool}{n:Int}{b:List UInt8}(h:¬(down=true\/¬(0<=n/\n<=(secs.length:Int)-1)\/120<b.length\/40<=cache.length)) (hf:fuse=0):wrC secs cache fuse down n b=(cache,-1,true):=by
 rw[wrC,if_neg h,if_pos hf]
theorem Ycl {secs:List (List UInt8)}{cache:List Wr}{fuse:Int}{down:Bool}{n:Int}{b:List UInt8}(h:¬(down=true\/¬(0<=n/\n<=(secs.length:Int)-1)\/120<b.length\/40<=cache.length)) (hf:¬fuse=0):wrC secs cache fuse down n b=(cache++[(n,b)],opF fuse,down):=by
 rw[wrC,if_neg h,if_neg hf]
def Zh9 (secs:List (List UInt8)) (cache:List Wr) (fuse:Int) (down:Bool) (n:Int) (b:List UInt8):List Wr×Int×Bool:=if C2 secs cache fuse=true then wrC secs cache fuse down n b else (cache,fuse,down)
theorem Ycn {secs:List (List UInt8)}{cache:List Wr}{fuse:Int}{down:Bool}{n:Int}{b:List UInt8}(h:C2 secs cache fuse=true):Zh9 secs cache fuse down n b=wrC secs cache fuse down n b:=if_pos h
theorem Yvp {secs:List (List UInt8)}{cache:List Wr}{fuse:Int}{down:Bool}{n:Int}{b:List UInt8}(h:C2 secs cache fuse=false):Zh9 secs cache fuse down n b=(cache,fuse,down):=by rw[Zh9,h];rfl
theorem Ny {secs:List (List UInt8)}{cache:List Wr}{fuse:Int}(h:C2 secs cache fuse=true):(1<=secs.length/\secs.length<=64)/\cache.length<=40/\(-1<=fuse/\fuse<=1000)/\(∀b∈secs,b.length<=120)/\∀w∈cache,0<=w.1/\w.1<=(secs.length:Int)-1/\w.2.length<=120:=of_decide_eq_true h
end Go.Vs
namespace Go.Vs
variable [Glb]
theorem Ytt {S:St}{K:KW}{x v:Opd}{r i c sz0 ry iy cy szy sz n:Nat}{p:Ag}{es ys esy:List (List D)}{m:Nat×List (List D)}{e ey:List D}(hx:S.opd x=.a (.c (.pe r p i c))) (hv:S.opd v=.a (.c (.rf ry [(iy,cy)] sz 0 n))) (hr:get S.roots r=some (.tr sz0 es)) (hy:get S.roots ry=some (.tr szy esy)) (hey:esy[iy]? = some ey) (hcy:ey[cy]? = some (.sl sz ys)) (hny:n=ys.length) (hne:ry≠r) (hn:Am sz0 es p=some m) (he:m.2[i]? = some e) (hc:c<e.length) (hfix:S.fix<=r)
  (hK:K .un [(r,p++[(i,c)])] (put (Sm r (p++[(i,c)]) (put S.roots ry (.tr szy (Db esy [] iy cy .hole)))) r (.tr sz0 (Db es p i c (.sl sz ys)))) S.next):wr S K (.store 1 x v):=by
 subst hny;simp only[wr,hx,hv];refine⟨[.rf ry [(iy,cy)] sz 0 ys.length],rfl,rfl,e, ?_,by omega,⟨sz0,es,hr⟩,(_,_), ?_,hK⟩
 ·simp only[St.node,hr,hn,Kra];exact he
 ·have hr1:get (put S.roots ry (.tr szy (Db esy [] iy cy .hole))) r=some (.tr sz0 es):=by rw[A0,if_neg (fun h=>hne h),hr]
  have hh:N2 sz0 es p i c=true:=Yn0 hn he hc;have hnd:Am szy esy [(iy,cy)]=some (sz,ys):=by simp only[Am,hey,hcy,Kra]
  have hcut:Rz esy [(iy,cy)]=Db esy [] iy cy .hole:=rfl;simp only[Hh,Ba,C9,hy,hnd,and_self,Kf,if_true,Kdc,Dp,hcut,hr1,Ki,Kw,hh,hfix,Kj]
def wH (l:List Wr) (i:Nat):List (List D):=(l.take i).map (fun w=>[.lf (.int .i64 w.1),.hole])++wD (l.drop i)
@[simp] theorem Ywi (l:List Wr) (i:Nat):(wH l i).length=l.length:=by simp [wH];omega
theorem Wy {l:List Wr}{i:Nat}(h:i<l.length):(wH l i)[i]? = some [.lf (.int .i64 l[i].1),.sl 1 (bD l[i].2)]:=by
 have hl:((l.take i).map (fun w=>[D.lf (.int .i64 w.1),.hole])).length=i:=by simp;omega
 rw[wH,Kla (by omega),hl,Kge,Wx (by simp;omega)];simp
theorem Yvi {l:List Wr}{i:Nat}(h:i<l.length):Db (wH l i) [] i 1 .hole=wH l (i+1):=by
 have hl:((l.take i).map (fun w=>[D.lf (.int .i64 w.1),.hole])).length=i:=by simp;omega
 simp only[Db,Dw,Fd,Wy h,List.set_cons_succ,Ksf];rw[wH,wH,Kze _ _ (by omega),hl,Kge,Kcc h,Kzb h];simp only[wD,wE,Kc,Ksf,Kaa,Khb,Kxa,Kjf]
def flL (s:List (List UInt8)) (l:List Wr):List (List UInt8):=l.foldl (fun s w=>s.set w.1.toNat w.2) s
@[simp] theorem Zuj (s:List (List UInt8)) (l:List Wr):(flL s l).length=s.length:=by
 induction l generalizing s with
 | nil=>rfl
 | cons w l ih=>simp only[flL,Kmd]at ih ⊢;rw[ih];simp
theorem Zul {s:List (List UInt8)}{l:List Wr}{i k:Nat}(h:i<l.length) (hk:l[i].1=(k:Int)):flL s (l.take (i+1))=(flL s (l.take i)).set k l[i].2:=by
 rw[Kzb h];simp only[flL,Kfe,Kmd,Kof,hk,Kxb]
theorem Zuk {m:Nat}:∀{l:List Wr}{s:List (List UInt8)},(∀b∈s,b.length<=m)->(∀w∈l,w.2.length<=m)->∀b∈flL s l,b.length<=m
 | [],s,hs,hl=>hs
 | w::l,s,hs,hl=>by
  refine Zuk (l:=l) (s:=s.set w.1.toNat w.2) (fun b hb=>?_) (fun x hx=>hl x (Ko _ hx));rcases List.mem_or_eq_of_mem_set hb with h|h
  ·exact hs b h
  ·rw[h];exact hl w Ks
abbrev Dv:=List (List UInt8)×List Wr×Int×Bool
def flC (secs:List (List UInt8)) (cache:List Wr) (fuse:Int) (down:Bool):Dv :=
 if down=true then (secs,cache,fuse,down) else if fuse=0 then (secs,cache,-1,true) else (flL secs cache,[],opF fuse,down)
theorem Zuf {secs:List (List UInt8)}{cache:List Wr}{fuse:Int}{down:Bool}(h:down=true):flC secs cache fuse down=(secs,cache,fuse,down):=if_pos h
theorem Zuh {secs:List (List UInt8)}{cache:List Wr}{fuse:Int}(h:fuse=0):flC secs cache fuse false=(secs,cache,-1,true):=by rw[flC,if_neg (by decide),if_pos h]
theorem Zug {secs:List (List UInt8)}{cache:List Wr}{fuse:Int}(h:¬fuse=0):flC secs cache fuse false=(flL secs cache,[],opF fuse,false):=by rw[flC,if_neg (by decide),if_neg h]
def Ze9 (secs:List (List UInt8)) (cache:List Wr) (fuse:Int) (down:Bool):Dv:=if C2 secs cache fuse=true then flC secs cache fuse down else (secs,cache,fuse,down)
theorem Zui {secs:List (List UInt8)}{cache:List Wr}{fuse:Int}{down:Bool}(h:C2 secs cache fuse=true):Ze9 secs cache fuse down=flC secs cache fuse down:=if_pos h
theorem Yiu {secs:List (List UInt8)}{cache:List Wr}{fuse:Int}{down:Bool}(h:C2 secs cache fuse=false):Ze9 secs cache fuse down=(secs,cache,fuse,down):=by rw[Ze9,h];rfl
end Go.Vs
namespace Go.Vs
variable [Glb]
def SmD (x:Dv):Prop:=x.1.length<=1048576/\(∀b∈x.1,b.length<=1048576)/\x.2.1.length<=1048577/\∀w∈x.2.1,w.2.length<=1048576
def Ypi (n:Int) (i:Nat):Bool:=decide (i<30)&&(Int.toNat n / 2^i%2==1)
end Go.Vs
namespace Go.Vs
variable [Glb]
def wP (p:Nat->Bool):Nat->List Wr->List (List D)
 | _,[]=>[]
 | i,w::l=>[.lf (.int .i64 w.1),if p i then .hole else .sl 1 (bD w.2)]::wP p (i+1) l
@[simp] theorem Yvj (p:Nat->Bool):∀(l:List Wr) (i:Nat),(wP p i l).length=l.length
 | [],_=>rfl
 | w::l,i=>by simp only[wP,Ke,Yvj p l]
def kb (n:Int) (i:Nat) (j:Nat):Bool:=decide (j<i)&&Ypi n j
end Go.Vs
namespace Go.Vs
variable [Glb]
theorem Ydn (l:List UInt8):Yh (bD l)=true:=by
 simp [Yh,bD,Zo]
theorem Ydm (l r:List UInt8):bD l++bD r=bD (l++r):=by simp [bD]
theorem Zra {S:St}{K:KW}{zero:List C}{x y:Opd}{r ry n m lo:Nat}{p:Ag}{l r2:List UInt8}(hx:S.opd x=.a (.c (.rf r [] 1 0 n))) (hr:get S.roots r=some (.tr 1 (bD l))) (hn:n=l.length) (hy:S.opd y=.a (.c (.rf ry p 1 lo m))) (hne:ry≠r) (hnode:S.node ry p=some (1,bD r2)) (hm:lo+m<=r2.length) (hb:l.length+m<=140737488355328)
  (hK:K (.a (.c (.rf S.next [] 1 0 (l.length+m)))) [] ((S.next,.tr 1 (bD (l++(r2.drop lo).take m)))::del S.roots r) (S.next+1)):wr S K (.app 1 1 zero x y):=by
 have e:((bD r2).drop lo).take m=bD ((r2.drop lo).take m):=by simp [bD,Kkb,Kib]
 refine⟨(1,bD l,some r), ?_,rfl, ?_⟩
 ·simp only[Pp,hx,hr,hn,Cf,if_true];simp
 ·simp only[hy];refine⟨trivial,by simpa using hne,by simpa using hb,bD r2,hnode,by simpa using hm,.inl ⟨by rw[e];exact Ydn _, ?_⟩⟩;rw[e,Ydm,Cf];exact hK
end Go.Vs
namespace Go.Vs
def Zit (P:Program) (W:World) (n:String) (d:DataW Unit):Prop :=
 ∃g t cs fuel p,P.globalNamed n=some g/\(P.globals[g]?).map (·.type)=some t/\W.var? P n=some cs/\DataW.trod (fun _=>()) P W 0 (fun _=>true) false fuel t cs.toList=some (d,p)
theorem Zn7 {P:Program}{W:World}{n:String}{d:DataW Unit}:∀{l:List (String×DataW Unit)}{ps:List MemPlace},DataW.LaidVars P W l ps->(n,d)∈l->Zit P W n d
 | [],_,_,hm=>by cases hm
 | (m,e)::l,ps,h,hm=>by
  obtain⟨g,t,cs,fuel,p,q,h1,h2,h3,h4,h5,_⟩:=h;cases hm with
  | head=>exact⟨g,t,cs,fuel,p,h1,h2,h3,h4⟩
  | tail _ hm=>exact Zn7 h5 hm
def K7 (b:UInt8):DataW Unit:=.lit (.int .u8 b.toNat)
def Yau (bs:List UInt8):DataW Unit:=.agg (bs.map K7)
def Z4:List UInt8->List (DataW Unit)
 | a::b::l=>.agg [K7 a,K7 b]::Z4 l
 | _=>[]
theorem Zxn:∀(l:List UInt8) (i:Nat) (a b:UInt8),l[2*i]? = some a->l[2*i+1]? = some b->(Z4 l)[i]? = some (.agg [K7 a,K7 b])
 | [],i,a,b,h,_=>by simp at h
 | [x],i,a,b,h,k=>by cases i<;>simp at k
 | x::y::l,0,a,b,h,k=>by
  simp only[Nat.mul_zero,Kp,Ka]at h;simp only[Nat.mul_zero,Km,Ky,Kp,Ka]at k;subst h k;rfl
 | x::y::l,i+1,a,b,h,k=>by
  rw[show 2*(i+1)=2*i+1+1 by omega,Ky,Ky]at h;rw[show 2*(i+1)+1=2*i+1+1+1 by omega,Ky,Ky]at k;exact Zxn l i a b h k
theorem Zr5 {W:World}{g o:Nat}{v:Value}(h:W.cell? ⟨g,o,none⟩=some v):g<W.heap.size:=by
 rcases Kec g W.heap.size with k|k
 ·exact k
 ·simp only[World.cell?,Kqe k]at h;cases h
theorem Zno {P:Program}{W:World}{fuel:Nat}{e:TypeId}{cs:List Value}{i:Nat}{b:UInt8}{x:DataW Unit×List MemPlace}(he:P.underlying e=some (.int .u8)) (h:DataW.trod (fun _=>()) P W 0 (fun _=>true) false fuel e ((cs.drop i).take 1)=some x) (hx:x.1=K7 b):cs[i]? = some (.int .u8 b.toNat):=by
 obtain⟨z,e1,e2,_⟩:=DataW.trod_int he h;rw[e2]at hx;simp only[K7,DataW.lit.injEq,Lit.int.injEq,true_and]at hx;subst hx;have h0:((cs.drop i).take 1)[0]? = some (.int .u8 (b.toNat:Int)):=by rw[e1];rfl
 simpa using h0
theorem Yue {P:Program}{W:World}{n:String}{g t e N:Nat}{bs:List UInt8}(hg:P.globalNamed n=some g) (hty:(P.globals[g]?).map (·.type)=some t) (ht:P.underlying t=some (.array N e)) (he:P.underlying e=some (.int .u8)) (hc:P.cellsOf e=1) (hr:Zit P W n (Yau bs)) :
  ∀(o:Nat) (y:UInt8),bs[o]? = some y->g<W.heap.size/\W.cell? ⟨g,o,none⟩=some (.int .u8 y.toNat):=by
 obtain⟨g',t',cs,fuel,p,hg',hty',hv,hd⟩:=hr;rw[hg]at hg';cases hg';rw[hty]at hty';cases hty';obtain⟨xs,m,_,ex,_,hl,hel⟩:=DataW.trod_array ht hd;have e3:xs.map (·.1)=bs.map K7:=(DataW.agg.inj (Prod.mk.inj ex).1).symm;intro o y hy;have hlen:xs.length=bs.length:=by simpa using congrArg List.length e3
 have ho:o<bs.length:=(Kja.1 hy).1;have hE:=hel o (by omega);rw[hc,Knd,Ku (by omega)]at hE;have e4:(xs.map (·.1))[o]? = (bs.map K7)[o]?:=by rw[e3]
 rw[Kga,Kga,Ku (by omega),hy]at e4;simp only[Kna,Ka]at e4;have h1:=Zno he hE e4;have h2:W.cell? ⟨g,o,none⟩=some (.int .u8 y.toNat):=by rw[World.var?_cell hg hv o];simpa using h1
 exact⟨Zr5 h2,h2⟩
theorem Yra {P:Program}{W:World}{n:String}{g t s N:Nat}{f0 f1:Field}{bs:List UInt8}(hg:P.globalNamed n=some g) (hty:(P.globals[g]?).map (·.type)=some t) (ht:P.underlying t=some (.array N s)) (hs:P.underlying s=some (.struct #[f0,f1])) (h0:P.underlying f0.type=some (.int .u8)) (h1:P.underlying f1.type=some (.int .u8)) (c0:P.cellsOf f0.type=1) (c1:P.cellsOf f1.type=1) (o0:f0.offset=0) (o1:f1.offset=1) (hc:P.cellsOf s=2) (hN:bs.length=2*N) (hr:Zit P W n (.agg (Z4 bs))) :
  ∀(o:Nat) (y:UInt8),bs[o]? = some y->g<W.heap.size/\W.cell? ⟨g,o,none⟩=some (.int .u8 y.toNat):=by
 obtain⟨g',t',cs,fuel,p,hg',hty',hv,hd⟩:=hr;rw[hg]at hg';cases hg';rw[hty]at hty';cases hty';obtain⟨xs,m,_,ex,_,hl,hel⟩:=DataW.trod_array ht hd;have e3:xs.map (·.1)=Z4 bs:=(DataW.agg.inj (Prod.mk.inj ex).1).symm;intro o y hy;have ho:o<bs.length:=(Kja.1 hy).1
 -- the pair it stands in
 have key:∀i,i<N->∃a b:UInt8,bs[2*i]? = some a/\bs[2*i+1]? = some b/\cs.toList[2*i]? = some (.int .u8 a.toNat)/\cs.toList[2*i+1]? = some (.int .u8 b.toNat):=by
  intro i hi;refine⟨bs[2*i]'(by omega),bs[2*i+1]'(by omega),Ku _,Ku _, ?_⟩;have hE:=hel i hi;rw[hc,Ku (by omega)]at hE;have hp:=Zxn bs i _ _ (Ku (show 2*i<bs.length by omega)) (Ku (show 2*i+1<bs.length by omega));rw[<-e3,Kga,Ku (by omega)]at hp;simp only[Kna,Ka]at hp;obtain⟨ys,k,_,ey,_,_,hf⟩:=DataW.trod_struct hs hE;have hy1:ys.map (·.1)=[K7 (bs[2*i]'(by omega)),K7 (bs[2*i+1]'(by omega))]:=by
   rw[ey]at hp;exact DataW.agg.inj hp
  match ys,hy1 with
  | [u,v],hy1 =>
   simp only[Kc,Khb,List.cons.injEq,and_true]at hy1;have q0:=hf 0 f0 rfl;have q1:=hf 1 f1 rfl;rw[o0,c0]at q0;rw[o1,c1]at q1;have r0:=Zno h0 q0 hy1.1;have r1:=Zno h1 q1 hy1.2;rw[Kza,if_pos (by omega),Kdb]at r0 r1;rw[show i*2+0=2*i by omega]at r0;rw[show i*2+1=2*i+1 by omega]at r1;exact⟨r0,r1⟩
 obtain⟨a,b,k1,k2,k3,k4⟩:=key (o / 2) (by omega);have h2:W.cell? ⟨g,o,none⟩=some (.int .u8 y.toNat):=by
  rw[World.var?_cell hg hv o,<-Kgf];rcases (show o=2*(o / 2)\/o=2*(o / 2)+1 by omega) with h|h
  ·rw[<-h]at k1 k3;rw[hy]at k1;cases k1;exact k3
  ·rw[<-h]at k2 k4;rw[hy]at k2;cases k2;exact k4
 exact⟨Zr5 h2,h2⟩
theorem Yi5 {bs cs:List UInt8}{W:World}(h0:∀(o:Nat) (y:UInt8),bs[o]? = some y->0<W.heap.size/\W.cell? ⟨0,o,none⟩=some (.int .u8 y.toNat)) (h1:∀(o:Nat) (y:UInt8),cs[o]? = some y->1<W.heap.size/\W.cell? ⟨1,o,none⟩=some (.int .u8 y.toNat)) :
  ∀b o v,@Fs ⟨[(0,bs),(1,cs)]⟩ b o=some v->b<W.heap.size/\W.cell? ⟨b,o,none⟩=some v:=by
 intro b o v h
 match b,h with
 | 0,h =>
  have e:@Fs ⟨[(0,bs),(1,cs)]⟩ 0 o=(match bs[o]? with|some y=>some (.int .u8 y.toNat)|none=>none):=rfl;rw[e]at h;split at h
  ·rename_i y hy;cases h;exact h0 o y hy
  ·cases h
 | 1,h =>
  have e:@Fs ⟨[(0,bs),(1,cs)]⟩ 1 o=(match cs[o]? with|some y=>some (.int .u8 y.toNat)|none=>none):=rfl;rw[e]at h;split at h
  ·rename_i y hy;cases h;exact h1 o y hy
  ·cases h
 | b+2,h =>
  have e:@Fs ⟨[(0,bs),(1,cs)]⟩ (b+2) o=none:=rfl;rw[e]at h;cases h
end Go.Vs
