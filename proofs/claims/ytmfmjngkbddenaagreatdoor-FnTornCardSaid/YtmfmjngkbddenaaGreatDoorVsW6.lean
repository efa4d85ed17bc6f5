import Derived.OpenShut
import Derived.LaidMore
import Derived.Test.YtmfmjngkbddenaaGreatDoorVsW5
set_option linter.all false
namespace Go.Vs
variable [Glb]
theorem Yor {sz0:Nat}{es:List (List D)}{p:Af}{i c:Nat}{m:Nat×List (List D)}{e:List D}(hn:Am sz0 es p=some m) (he:m.2[i]? = some e) (hc:c<e.length):Ok sz0 es p i c=true:=by
 simp [Ok,hn,he,hc]
theorem Yts (l:List (List UInt8)) (i:Nat) (c:List UInt8) (h:i<l.length):Dg (sD l) [] i 0 (.sl 1 (bD c))=sD (l.set i c):=by
 simp only[Dg,D0,Fi,Yaw h,Kwf];simp [sD,Kbe]
theorem Zzd (i c:Nat):([(i,c)] <+: ([]:Af))=False:=by simp
def Ce (secs:List (List UInt8)) (cache:List Wr) (fuse:Int):Bool:=decide ((1<=secs.length/\secs.length<=64)/\cache.length<=40/\(-1<=fuse/\fuse<=1000)/\(∀b∈secs,b.length<=120)/\∀w∈cache,0<=w.1/\w.1<=(secs.length:Int)-1/\w.2.length<=120)
end Go.Vs
namespace Go.Vs
variable [Glb]
def rdL (l:List Wr) (n:Int) (b:List UInt8):List UInt8:=l.foldl (fun b w=>if w.1=n then w.2 else b) b
theorem Ysw {l:List Wr}{n:Int}{b:List UInt8}{i:Nat}(h:i<l.length) (hw:l[i].1=n):rdL (l.take (i+1)) n b=l[i].2:=by
 rw[Kbc h];simp only[rdL,Kae,Ktc,Ksf,hw,if_true]
theorem Ysy {l:List Wr}{n:Int}{b:List UInt8}{i:Nat}(h:i<l.length) (hw:¬l[i].1=n):rdL (l.take (i+1)) n b=rdL (l.take i) n b:=by
 rw[Kbc h];simp only[rdL,Kae,Ktc,Ksf,hw,if_false]
theorem Ysx (l:List Wr) (n:Int) (b:List UInt8):rdL l n b=b\/∃w∈l,rdL l n b=w.2:=by
 induction l generalizing b with
 | nil=>exact .inl rfl
 | cons w l ih =>
  have e:rdL (w::l) n b=rdL l n (if w.1=n then w.2 else b):=rfl;rw[e];rcases ih (if w.1=n then w.2 else b) with h|⟨x,hx,h⟩
  ·rw[h];split
   ·exact .inr ⟨w,Kp,rfl⟩
   exact .inl rfl
  exact .inr ⟨x,Kj _ hx,h⟩
def W0 (secs:List (List UInt8)) (cache:List Wr) (fuse n:Int):List UInt8:=if Ce secs cache fuse=true/\0<=n/\n<=(secs.length:Int)-1 then rdL cache n (secs.getD n.toNat []) else []
theorem Zzo {secs:List (List UInt8)}{cache:List Wr}{fuse:Int}{k:Nat}(h:Ce secs cache fuse=true) (hk:k<secs.length):W0 secs cache fuse k=rdL cache k secs[k]:=by
 rw[W0,if_pos ⟨h,by omega,by omega⟩,Knb];simp [Kld,hk]
theorem Zzn {secs:List (List UInt8)}{cache:List Wr}{fuse n:Int}(h:¬(Ce secs cache fuse=true/\0<=n/\n<=(secs.length:Int)-1)):W0 secs cache fuse n=[]:=if_neg h
theorem Ysz {secs:List (List UInt8)}{cache:List Wr}{fuse n:Int}{m:Nat}(hs:∀b∈secs,b.length<=m) (hc:∀w∈cache,w.2.length<=m):(W0 secs cache fuse n).length<=m:=by
 unfold W0;split
 ·rename_i h;rcases Ysx cache n (secs.getD n.toNat []) with e|⟨w,hw,e⟩
  ·rw[e];have hk:n.toNat<secs.length:=by omega
   have:secs.getD n.toNat []=secs[n.toNat]:=by simp [Kld,hk]
   rw[this];exact hs _ (Kcb hk)
  rw[e];exact hc w hw
 simp
end Go.Vs
namespace Go.Vs
variable [Glb]
def opF (fuse:Int):Int:=if fuse=0 then -1 else if 0<fuse then fuse-1 else fuse
def opD (fuse:Int) (down:Bool):Bool:=if fuse=0 then true else down
def opR (fuse:Int):Bool:=!(fuse==0)
theorem Zg4 {fuse:Int}{down:Bool}(h:fuse=0):opF fuse=-1/\opD fuse down=true/\opR fuse=false:=by
 subst h;exact⟨rfl,rfl,rfl⟩
theorem Zg3 {fuse:Int}{down:Bool}(h:¬fuse=0):opD fuse down=down/\opR fuse=true:=by
 refine⟨if_neg h, ?_⟩;simp [opR,h]
def wrC (secs:List (List UInt8)) (cache:List Wr) (fuse:Int) (down:Bool) (n:Int) (b:List UInt8):List Wr×Int×Bool :=
 if down=true\/¬(0<=n/\n<=(secs.length:Int)-1)\/120<b.length\/40<=cache.length then (cache,fuse,down) else if fuse=0 then (cache,-1,true) else (cache++[(n,b)],opF fuse,down)
theorem Mm {secs:List (List UInt8)}{cache:List Wr}{fuse:Int}{down:Bool}{n:Int}{b:List UInt8}(h:down=true\/¬(0<=n/\n<=(secs.length:Int)-1)\/120<b.length\/40<=cache.length):wrC secs cache fuse down n b=(cache,fuse,down):=if_pos h
theorem Zci {secs:List (List UInt8)}{cache:List Wr}{fuse:Int}{down:Bool}{n:Int}{b:List UInt8}(h:¬(down=true\/¬(0<=n/\n<=(secs.length:Int)-1)\/120<b.length\/40<=cache.length)) (hf:fuse=0):wrC secs cache fuse down n b=(cache,-1,true):=by
 rw[wrC,if_neg h,if_pos hf]
theorem Rr {secs:List (List UInt8)}{cache:List Wr}{fuse:Int}{down:Bool}{n:Int}{b:List UInt8}(h:¬(down=true\/¬(0<=n/\n<=(secs.length:Int)-1)\/120<b.length\/40<=cache.length)) (hf:¬fuse=0):wrC secs cache fuse down n b=(cache++[(n,b)],opF fuse,down):=by
 rw[wrC,if_neg h,if_neg hf]
def Zi2 (secs:List (List UInt8)) (cache:List Wr) (fuse:Int) (down:Bool) (n:Int) (b:List UInt8):List Wr×Int×Bool:=if Ce secs cache fuse=true then wrC secs cache fuse down n b else (cache,fuse,down)
theorem Ydv {secs:List (List UInt8)}{cache:List Wr}{fuse:Int}{down:Bool}{n:Int}{b:List UInt8}(h:Ce secs cache fuse=true):Zi2 secs cache fuse down n b=wrC secs cache fuse down n b:=if_pos h
theorem Yxy {secs:List (List UInt8)}{cache:List Wr}{fuse:Int}{down:Bool}{n:Int}{b:List UInt8}(h:Ce secs cache fuse=false):Zi2 secs cache fuse down n b=(cache,fuse,down):=by rw[Zi2,h];rfl
theorem H6 {secs:List (List UInt8)}{cache:List Wr}{fuse:Int}(h:Ce secs cache fuse=true):(1<=secs.length/\secs.length<=64)/\cache.length<=40/\(-1<=fuse/\fuse<=1000)/\(∀b∈secs,b.length<=120)/\∀w∈cache,0<=w.1/\w.1<=(secs.length:Int)-1/\w.2.length<=120:=of_decide_eq_true h
end Go.Vs
namespace Go.Vs
variable [Glb]
theorem Yvh {S:St}{K:KW}{x v:Opd}{r i c sz0 ry iy cy szy sz n:Nat}{p:Af}{es ys esy:List (List D)}{m:Nat×List (List D)}{e ey:List D}(hx:S.opd x=.a (.c (.pe r p i c))) (hv:S.opd v=.a (.c (.rf ry [(iy,cy)] sz 0 n))) (hr:get S.roots r=some (.tr sz0 es)) (hy:get S.roots ry=some (.tr szy esy)) (hey:esy[iy]? = some ey) (hcy:ey[cy]? = some (.sl sz ys)) (hny:n=ys.length) (hne:ry≠r) (hn:Am sz0 es p=some m) (he:m.2[i]? = some e) (hc:c<e.length) (hfix:S.fix<=r)
  (hK:K .un [(r,p++[(i,c)])] (put (Tf r (p++[(i,c)]) (put S.roots ry (.tr szy (Dg esy [] iy cy .hole)))) r (.tr sz0 (Dg es p i c (.sl sz ys)))) S.next):wr S K (.store 1 x v):=by
 subst hny;simp only[wr,hx,hv];refine⟨[.rf ry [(iy,cy)] sz 0 ys.length],rfl,rfl,e, ?_,by omega,⟨sz0,es,hr⟩,(_,_), ?_,hK⟩
 ·simp only[St.node,hr,hn,Kra];exact he
 have hr1:get (put S.roots ry (.tr szy (Dg esy [] iy cy .hole))) r=some (.tr sz0 es):=by rw[Ax,if_neg (fun h=>hne h),hr]
 have hh:Ok sz0 es p i c=true:=Yor hn he hc;have hnd:Am szy esy [(iy,cy)]=some (sz,ys):=by simp only[Am,hey,hcy,Kra]
 have hcut:Sp esy [(iy,cy)]=Dg esy [] iy cy .hole:=rfl;simp only[Hw,A7,Dh,hy,hnd,and_self,Kc,if_true,Kkc,Et,hcut,hr1,Ki,Kga,hh,hfix,Km]
def wH (l:List Wr) (i:Nat):List (List D):=(l.take i).map (fun w=>[.lf (.int .i64 w.1),.hole])++wD (l.drop i)
@[simp] theorem Yyz (l:List Wr) (i:Nat):(wH l i).length=l.length:=by simp [wH];omega
theorem Xs {l:List Wr}{i:Nat}(h:i<l.length):(wH l i)[i]? = some [.lf (.int .i64 l[i].1),.sl 1 (bD l[i].2)]:=by
 have hl:((l.take i).map (fun w=>[D.lf (.int .i64 w.1),.hole])).length=i:=by simp;omega
 rw[wH,Kia (by omega),hl,Kse,Yxn (by simp;omega)];simp
theorem Yxp {l:List Wr}{i:Nat}(h:i<l.length):Dg (wH l i) [] i 1 .hole=wH l (i+1):=by
 have hl:((l.take i).map (fun w=>[D.lf (.int .i64 w.1),.hole])).length=i:=by simp;omega
 simp only[Dg,D0,Fi,Xs h,List.set_cons_succ,Kwf];rw[wH,wH,Ktf _ _ (by omega),hl,Kse,Kwb h,Kbc h];simp only[wD,wE,Ke,Kwf,Kx,Ktb,Kva,Kkf]
def flL (s:List (List UInt8)) (l:List Wr):List (List UInt8):=l.foldl (fun s w=>s.set w.1.toNat w.2) s
@[simp] theorem S3 (s:List (List UInt8)) (l:List Wr):(flL s l).length=s.length:=by
 induction l generalizing s with
 | nil=>rfl
 | cons w l ih=>simp only[flL,Ktc]at ih ⊢;rw[ih];simp
theorem Zvq {s:List (List UInt8)}{l:List Wr}{i k:Nat}(h:i<l.length) (hk:l[i].1=(k:Int)):flL s (l.take (i+1))=(flL s (l.take i)).set k l[i].2:=by
 rw[Kbc h];simp only[flL,Kae,Ktc,Ksf,hk,Knb]
theorem Zvp {m:Nat}:∀{l:List Wr}{s:List (List UInt8)},(∀b∈s,b.length<=m)->(∀w∈l,w.2.length<=m)->∀b∈flL s l,b.length<=m
 | [],s,hs,hl=>hs
 | w::l,s,hs,hl=>by
  refine Zvp (l:=l) (s:=s.set w.1.toNat w.2) (fun b hb=>?_) (fun x hx=>hl x (Kj _ hx));rcases Ksg hb with h|h
  ·exact hs b h
  rw[h];exact hl w Kp
abbrev Dv:=List (List UInt8)×List Wr×Int×Bool
def flC (secs:List (List UInt8)) (cache:List Wr) (fuse:Int) (down:Bool):Dv :=
 if down=true then (secs,cache,fuse,down) else if fuse=0 then (secs,cache,-1,true) else (flL secs cache,[],opF fuse,down)
theorem Sz {secs:List (List UInt8)}{cache:List Wr}{fuse:Int}{down:Bool}(h:down=true):flC secs cache fuse down=(secs,cache,fuse,down):=if_pos h
theorem Z1 {secs:List (List UInt8)}{cache:List Wr}{fuse:Int}(h:fuse=0):flC secs cache fuse false=(secs,cache,-1,true):=by rw[flC,if_neg (by decide),if_pos h]
theorem Oj {secs:List (List UInt8)}{cache:List Wr}{fuse:Int}(h:¬fuse=0):flC secs cache fuse false=(flL secs cache,[],opF fuse,false):=by rw[flC,if_neg (by decide),if_neg h]
def Zfy (secs:List (List UInt8)) (cache:List Wr) (fuse:Int) (down:Bool):Dv:=if Ce secs cache fuse=true then flC secs cache fuse down else (secs,cache,fuse,down)
theorem Zvn {secs:List (List UInt8)}{cache:List Wr}{fuse:Int}{down:Bool}(h:Ce secs cache fuse=true):Zfy secs cache fuse down=flC secs cache fuse down:=if_pos h
theorem Yj0 {secs:List (List UInt8)}{cache:List Wr}{fuse:Int}{down:Bool}(h:Ce secs cache fuse=false):Zfy secs cache fuse down=(secs,cache,fuse,down):=by rw[Zfy,h];rfl
end Go.Vs
namespace Go.Vs
variable [Glb]
def SmD (x:Dv):Prop:=x.1.length<=1048576/\(∀b∈x.1,b.length<=1048576)/\x.2.1.length<=1048577/\∀w∈x.2.1,w.2.length<=1048576
def Ox (n:Int) (i:Nat):Bool:=decide (i<30)&&(Int.toNat n / 2^i%2==1)
def faL (n:Int):Nat->List (List UInt8)->List Wr->List (List UInt8)
 | _,s,[]=>s
 | i,s,w::l=>faL n (i+1) (if Ox n i then s.set w.1.toNat w.2 else s) l
theorem Zy (n:Int):∀(l:List Wr) (i:Nat) (s:List (List UInt8)),(faL n i s l).length=s.length
 | [],_,_=>rfl
 | w::l,i,s=>by simp only[faL];rw[Zy];split<;>simp
theorem Zvc (n:Int):∀(l r:List Wr) (i:Nat) (s:List (List UInt8)),faL n i s (l++r)=faL n (i+l.length) (faL n i s l) r
 | [],r,i,s=>by simp [faL]
 | w::l,r,i,s=>by simp only[Kn,faL,Zvc n l r,Kf];rw[show i+1+l.length=i+(l.length+1) by omega]
theorem Yju {n:Int}{s:List (List UInt8)}{l:List Wr}{i k:Nat}(h:i<l.length) (hk:l[i].1=(k:Int)):faL n 0 s (l.take (i+1))=if Ox n i then (faL n 0 s (l.take i)).set k l[i].2 else faL n 0 s (l.take i):=by
 rw[Kbc h,Zvc];have hl:(l.take i).length=i:=by simp;omega
 simp only[faL,hl,Kr,hk,Knb]
theorem Zvd {n:Int}{m:Nat}:∀{l:List Wr}{i:Nat}{s:List (List UInt8)},(∀b∈s,b.length<=m)->(∀w∈l,w.2.length<=m)->∀b∈faL n i s l,b.length<=m
 | [],_,s,hs,hl=>hs
 | w::l,i,s,hs,hl=>by
  refine Zvd (l:=l) (fun b hb=>?_) (fun x hx=>hl x (Kj _ hx));split at hb
  ·rcases Ksg hb with h|h
   ·exact hs b h
   rw[h];exact hl w Kp
  exact hs b hb
def faN (n:Int):Int:=if 0<=n/\n<=1073741823 then n else 0
def Zfr (secs:List (List UInt8)) (cache:List Wr) (fuse:Int) (down:Bool) (n:Int):Dv :=
 if Ce secs cache fuse=true then (faL (faN n) 0 secs cache,[],-1,false) else (secs,cache,fuse,down)
theorem Zvb {secs:List (List UInt8)}{cache:List Wr}{fuse:Int}{down:Bool}{n:Int}(h:Ce secs cache fuse=true):Zfr secs cache fuse down n=(faL (faN n) 0 secs cache,[],-1,false):=if_pos h
theorem Yjt {secs:List (List UInt8)}{cache:List Wr}{fuse:Int}{down:Bool}{n:Int}(h:Ce secs cache fuse=false):Zfr secs cache fuse down n=(secs,cache,fuse,down):=by rw[Zfr,h];rfl
theorem Yjv (n:Int):0<=faN n/\faN n<=1073741823:=by unfold faN;split<;>omega
end Go.Vs
namespace Go.Vs
variable [Glb]
theorem Ye6 {n:Int}(h:0<=n/\n<=1073741823) (i:Nat):IntKind.i64.wrap (((BitVec.ofInt IntKind.i64.bits (n.fdiv (2^i))&&&BitVec.ofInt IntKind.i64.bits 1).toNat:Nat):Int)=((n.toNat / 2^i%2:Nat):Int):=by
 obtain⟨m,rfl⟩:∃m:Nat,n=m:=⟨n.toNat,by omega⟩;have e:(m:Int).fdiv (2^i)=((m / 2^i:Nat):Int):=by
  rw[Kng _ (by exact Int.le_of_lt (Int.pow_pos (by decide)))];simp
 rw[e,Knb];exact Yel (a:=m / 2^i) (k:=1) (m:=1) (Kyf (Nat.div_le_self _ _) (by omega)) (by decide) (by decide)
def wP (p:Nat->Bool):Nat->List Wr->List (List D)
 | _,[]=>[]
 | i,w::l=>[.lf (.int .i64 w.1),if p i then .hole else .sl 1 (bD w.2)]::wP p (i+1) l
@[simp] theorem Yxq (p:Nat->Bool):∀(l:List Wr) (i:Nat),(wP p i l).length=l.length
 | [],_=>rfl
 | w::l,i=>by simp only[wP,Kf,Yxq p l]
def kb (n:Int) (i:Nat) (j:Nat):Bool:=decide (j<i)&&Ox n j
theorem Yqd {n:Int}{i:Nat}(h:i<30) (h2:((n.toNat / 2^i%2:Nat):Int)=1):Ox n i=true:=by
 simp only[Ox,Kd,decide_eq_true_eq,beq_iff_eq];exact⟨h,by omega⟩
theorem Zxb {n:Int}{i:Nat}(h:¬(i<30/\((n.toNat / 2^i%2:Nat):Int)=1)):Ox n i=false:=by
 rw[Bool.eq_false_iff];intro hh;simp only[Ox,Kd,decide_eq_true_eq,beq_iff_eq]at hh;exact h ⟨hh.1,by omega⟩
end Go.Vs
namespace Go.Vs
variable [Glb]
end Go.Vs
namespace Go.Vs
def Zji (P:Program) (W:World) (n:String) (d:DataW Unit):Prop :=
 ∃g t cs fuel p,P.globalNamed n=some g/\(P.globals[g]?).map (·.type)=some t/\W.var? P n=some cs/\DataW.trod (fun _=>()) P W 0 (fun _=>true) false fuel t cs.toList=some (d,p)
theorem Zpf {P:Program}{W:World}{n:String}{d:DataW Unit}:∀{l:List (String×DataW Unit)}{ps:List MemPlace},DataW.LaidVars P W l ps->(n,d)∈l->Zji P W n d
 | [],_,_,hm=>by cases hm
 | (m,e)::l,ps,h,hm=>by
  obtain⟨g,t,cs,fuel,p,q,h1,h2,h3,h4,h5,_⟩:=h;cases hm with
  | head=>exact⟨g,t,cs,fuel,p,h1,h2,h3,h4⟩
  | tail _ hm=>exact Zpf h5 hm
def Lt (b:UInt8):DataW Unit:=.lit (.int .u8 b.toNat)
def Ycb (bs:List UInt8):DataW Unit:=.agg (bs.map Lt)
def Za0:List UInt8->List (DataW Unit)
 | a::b::l=>.agg [Lt a,Lt b]::Za0 l
 | _=>[]
theorem Zy7:∀(l:List UInt8) (i:Nat) (a b:UInt8),l[2*i]? = some a->l[2*i+1]? = some b->(Za0 l)[i]? = some (.agg [Lt a,Lt b])
 | [],i,a,b,h,_=>by simp at h
 | [x],i,a,b,h,k=>by cases i<;>simp at k
 | x::y::l,0,a,b,h,k=>by
  simp only[Nat.mul_zero,Kv,Ka]at h;simp only[Nat.mul_zero,Kr,Kpa,Kv,Ka]at k;subst h k;rfl
 | x::y::l,i+1,a,b,h,k=>by
  rw[show 2*(i+1)=2*i+1+1 by omega,Kpa,Kpa]at h;rw[show 2*(i+1)+1=2*i+1+1+1 by omega,Kpa,Kpa]at k;exact Zy7 l i a b h k
theorem Ztb {W:World}{g o:Nat}{v:Value}(h:W.cell? ⟨g,o,none⟩=some v):g<W.heap.size:=by
 rcases Kfc g W.heap.size with k|k
 ·exact k
 simp only[World.cell?,Kje k]at h;cases h
theorem Zor {P:Program}{W:World}{fuel:Nat}{e:TypeId}{cs:List Value}{i:Nat}{b:UInt8}{x:DataW Unit×List MemPlace}(he:P.underlying e=some (.int .u8)) (h:DataW.trod (fun _=>()) P W 0 (fun _=>true) false fuel e ((cs.drop i).take 1)=some x) (hx:x.1=Lt b):cs[i]? = some (.int .u8 b.toNat):=by
 obtain⟨z,e1,e2,_⟩:=DataW.trod_int he h;rw[e2]at hx;simp only[Lt,DataW.lit.injEq,Lit.int.injEq,true_and]at hx;subst hx;have h0:((cs.drop i).take 1)[0]? = some (.int .u8 (b.toNat:Int)):=by rw[e1];rfl
 simpa using h0
theorem Yv3 {P:Program}{W:World}{n:String}{g t e N:Nat}{bs:List UInt8}(hg:P.globalNamed n=some g) (hty:(P.globals[g]?).map (·.type)=some t) (ht:P.underlying t=some (.array N e)) (he:P.underlying e=some (.int .u8)) (hc:P.cellsOf e=1) (hr:Zji P W n (Ycb bs)) :
  ∀(o:Nat) (y:UInt8),bs[o]? = some y->g<W.heap.size/\W.cell? ⟨g,o,none⟩=some (.int .u8 y.toNat):=by
 obtain⟨g',t',cs,fuel,p,hg',hty',hv,hd⟩:=hr;rw[hg]at hg';cases hg';rw[hty]at hty';cases hty';obtain⟨xs,m,_,ex,_,hl,hel⟩:=DataW.trod_array ht hd;have e3:xs.map (·.1)=bs.map Lt:=(DataW.agg.inj (Prod.mk.inj ex).1).symm;intro o y hy;have hlen:xs.length=bs.length:=by simpa using congrArg List.length e3
 have ho:o<bs.length:=(Kfa.1 hy).1;have hE:=hel o (by omega);rw[hc,Khd,Ku (by omega)]at hE;have e4:(xs.map (·.1))[o]? = (bs.map Lt)[o]?:=by rw[e3]
 rw[Kba,Kba,Ku (by omega),hy]at e4;simp only[Kha,Ka]at e4;have h1:=Zor he hE e4;have h2:W.cell? ⟨g,o,none⟩=some (.int .u8 y.toNat):=by rw[World.var?_cell hg hv o];simpa using h1
 exact⟨Ztb h2,h2⟩
theorem Ysl {P:Program}{W:World}{n:String}{g t s N:Nat}{f0 f1:Field}{bs:List UInt8}(hg:P.globalNamed n=some g) (hty:(P.globals[g]?).map (·.type)=some t) (ht:P.underlying t=some (.array N s)) (hs:P.underlying s=some (.struct #[f0,f1])) (h0:P.underlying f0.type=some (.int .u8)) (h1:P.underlying f1.type=some (.int .u8)) (c0:P.cellsOf f0.type=1) (c1:P.cellsOf f1.type=1) (o0:f0.offset=0) (o1:f1.offset=1) (hc:P.cellsOf s=2) (hN:bs.length=2*N) (hr:Zji P W n (.agg (Za0 bs))) :
  ∀(o:Nat) (y:UInt8),bs[o]? = some y->g<W.heap.size/\W.cell? ⟨g,o,none⟩=some (.int .u8 y.toNat):=by
 obtain⟨g',t',cs,fuel,p,hg',hty',hv,hd⟩:=hr;rw[hg]at hg';cases hg';rw[hty]at hty';cases hty';obtain⟨xs,m,_,ex,_,hl,hel⟩:=DataW.trod_array ht hd;have e3:xs.map (·.1)=Za0 bs:=(DataW.agg.inj (Prod.mk.inj ex).1).symm;intro o y hy;have ho:o<bs.length:=(Kfa.1 hy).1
 -- the pair it stands in
 have key:∀i,i<N->∃a b:UInt8,bs[2*i]? = some a/\bs[2*i+1]? = some b/\cs.toList[2*i]? = some (.int .u8 a.toNat)/\cs.toList[2*i+1]? = some (.int .u8 b.toNat):=by
  intro i hi;refine⟨bs[2*i]'(by omega),bs[2*i+1]'(by omega),Ku _,Ku _, ?_⟩;have hE:=hel i hi;rw[hc,Ku (by omega)]at hE;have hp:=Zy7 bs i _ _ (Ku (show 2*i<bs.length by omega)) (Ku (show 2*i+1<bs.length by omega));rw[<-e3,Kba,Ku (by omega)]at hp;simp only[Kha,Ka]at hp;obtain⟨ys,k,_,ey,_,_,hf⟩:=DataW.trod_struct hs hE;have hy1:ys.map (·.1)=[Lt (bs[2*i]'(by omega)),Lt (bs[2*i+1]'(by omega))]:=by
   rw[ey]at hp;exact DataW.agg.inj hp
  match ys,hy1 with
  | [u,v],hy1 =>
   simp only[Ke,Ktb,List.cons.injEq,and_true]at hy1;have q0:=hf 0 f0 rfl;have q1:=hf 1 f1 rfl;rw[o0,c0]at q0;rw[o1,c1]at q1;have r0:=Zor h0 q0 hy1.1;have r1:=Zor h1 q1 hy1.2;rw[Kwa,if_pos (by omega),Kdb]at r0 r1;rw[show i*2+0=2*i by omega]at r0;rw[show i*2+1=2*i+1 by omega]at r1;exact⟨r0,r1⟩
 obtain⟨a,b,k1,k2,k3,k4⟩:=key (o / 2) (by omega);have h2:W.cell? ⟨g,o,none⟩=some (.int .u8 y.toNat):=by
  rw[World.var?_cell hg hv o,<-Khf];rcases (show o=2*(o / 2)\/o=2*(o / 2)+1 by omega) with h|h
  ·rw[<-h]at k1 k3;rw[hy]at k1;cases k1;exact k3
  rw[<-h]at k2 k4;rw[hy]at k2;cases k2;exact k4
 exact⟨Ztb h2,h2⟩
theorem Ykf {bs cs:List UInt8}{W:World}(h0:∀(o:Nat) (y:UInt8),bs[o]? = some y->0<W.heap.size/\W.cell? ⟨0,o,none⟩=some (.int .u8 y.toNat)) (h1:∀(o:Nat) (y:UInt8),cs[o]? = some y->1<W.heap.size/\W.cell? ⟨1,o,none⟩=some (.int .u8 y.toNat)) :
  ∀b o v,@F0 ⟨[(0,bs),(1,cs)]⟩ b o=some v->b<W.heap.size/\W.cell? ⟨b,o,none⟩=some v:=by
 intro b o v h
 match b,h with
 | 0,h =>
  have e:@F0 ⟨[(0,bs),(1,cs)]⟩ 0 o=(match bs[o]? with|some y=>some (.int .u8 y.toNat)|none=>none):=rfl;rw[e]at h;split at h
  ·rename_i y hy;cases h;exact h0 o y hy
  cases h
 | 1,h =>
  have e:@F0 ⟨[(0,bs),(1,cs)]⟩ 1 o=(match cs[o]? with|some y=>some (.int .u8 y.toNat)|none=>none):=rfl;rw[e]at h;split at h
  ·rename_i y hy;cases h;exact h1 o y hy
  cases h
 | b+2,h =>
  have e:@F0 ⟨[(0,bs),(1,cs)]⟩ (b+2) o=none:=rfl;rw[e]at h;cases h
end Go.Vs
