import Derived.OpenShut
import Derived.LaidMore
import Derived.Test.YtmfmjngkbddenaaGreatDoorVsW5
import Derived.Test.YtmfmjngkbddenaaGreatDoorVsW2
set_option linter.all false
namespace Go.Vs
variable [Glb]
theorem Yn8 {sz0:Nat}{es:List (List D)}{p:Af}{i c:Nat}{m:Nat×List (List D)}{e:List D}(hn:Am sz0 es p=some m) (he:m.2[i]? = some e) (hc:c<e.length):Oh sz0 es p i c=true:=by
 simp [Oh,hn,he,hc]
theorem Ytb (l:List (List UInt8)) (i:Nat) (c:List UInt8) (h:i<l.length):Dc (sD l) [] i 0 (.sl 1 (bD c))=sD (l.set i c):=by
 simp only[Dc,Dx,Fi,Yai h,Kwf];simp [sD,Kae]
theorem Zy0 (i c:Nat):([(i,c)] <+: ([]:Af))=False:=by simp
def Cj (secs:List (List UInt8)) (cache:List Wr) (fuse:Int):Bool:=decide ((1<=secs.length/\secs.length<=64)/\cache.length<=40/\(-1<=fuse/\fuse<=1000)/\(∀b∈secs,b.length<=120)/\∀w∈cache,0<=w.1/\w.1<=(secs.length:Int)-1/\w.2.length<=120)
end Go.Vs
namespace Go.Vs
variable [Glb]
def rdL (l:List Wr) (n:Int) (b:List UInt8):List UInt8:=l.foldl (fun b w=>if w.1=n then w.2 else b) b
theorem Ysf {l:List Wr}{n:Int}{b:List UInt8}{i:Nat}(h:i<l.length) (hw:l[i].1=n):rdL (l.take (i+1)) n b=l[i].2:=by
 rw[Kbc h];simp only[rdL,Kzd,Krc,Ksf,hw,if_true]
theorem Ysh {l:List Wr}{n:Int}{b:List UInt8}{i:Nat}(h:i<l.length) (hw:¬l[i].1=n):rdL (l.take (i+1)) n b=rdL (l.take i) n b:=by
 rw[Kbc h];simp only[rdL,Kzd,Krc,Ksf,hw,if_false]
theorem Ysg (l:List Wr) (n:Int) (b:List UInt8):rdL l n b=b\/∃w∈l,rdL l n b=w.2:=by
 induction l generalizing b with
 | nil=>exact .inl rfl
 | cons w l ih =>
  have e:rdL (w::l) n b=rdL l n (if w.1=n then w.2 else b):=rfl;rw[e];rcases ih (if w.1=n then w.2 else b) with h|⟨x,hx,h⟩
  ·rw[h];split
   ·exact .inr ⟨w,Kq,rfl⟩
   ·exact .inl rfl
  ·exact .inr ⟨x,Km _ hx,h⟩
def Wo (secs:List (List UInt8)) (cache:List Wr) (fuse n:Int):List UInt8:=if Cj secs cache fuse=true/\0<=n/\n<=(secs.length:Int)-1 then rdL cache n (secs.getD n.toNat []) else []
theorem Zy9 {secs:List (List UInt8)}{cache:List Wr}{fuse:Int}{k:Nat}(h:Cj secs cache fuse=true) (hk:k<secs.length):Wo secs cache fuse k=rdL cache k secs[k]:=by
 rw[Wo,if_pos ⟨h,by omega,by omega⟩,Knb];simp [Kwe,hk]
theorem Zy8 {secs:List (List UInt8)}{cache:List Wr}{fuse n:Int}(h:¬(Cj secs cache fuse=true/\0<=n/\n<=(secs.length:Int)-1)):Wo secs cache fuse n=[]:=if_neg h
theorem Ysi {secs:List (List UInt8)}{cache:List Wr}{fuse n:Int}{m:Nat}(hs:∀b∈secs,b.length<=m) (hc:∀w∈cache,w.2.length<=m):(Wo secs cache fuse n).length<=m:=by
 unfold Wo;split
 ·rename_i h;rcases Ysg cache n (secs.getD n.toNat []) with e|⟨w,hw,e⟩
  ·rw[e];have hk:n.toNat<secs.length:=by omega
   have:secs.getD n.toNat []=secs[n.toNat]:=by simp [Kwe,hk]
   rw[this];exact hs _ (Kcb hk)
  ·rw[e];exact hc w hw
 ·simp
end Go.Vs
namespace Go.Vs
variable [Glb]
def opF (fuse:Int):Int:=if fuse=0 then -1 else if 0<fuse then fuse-1 else fuse
def opD (fuse:Int) (down:Bool):Bool:=if fuse=0 then true else down
def opR (fuse:Int):Bool:=!(fuse==0)
theorem Zgv {fuse:Int}{down:Bool}(h:fuse=0):opF fuse=-1/\opD fuse down=true/\opR fuse=false:=by
 subst h;exact⟨rfl,rfl,rfl⟩
theorem Zgu {fuse:Int}{down:Bool}(h:¬fuse=0):opD fuse down=down/\opR fuse=true:=by
 refine⟨if_neg h, ?_⟩;simp [opR,h]
def wrC (secs:List (List UInt8)) (cache:List Wr) (fuse:Int) (down:Bool) (n:Int) (b:List UInt8):List Wr×Int×Bool :=
 if down=true\/¬(0<=n/\n<=(secs.length:Int)-1)\/120<b.length\/40<=cache.length then (cache,fuse,down) else if fuse=0 then (cache,-1,true) else (cache++[(n,b)],opF fuse,down)
theorem Rl {secs:List (List UInt8)}{cache:List Wr}{fuse:Int}{down:Bool}{n:Int}{b:List UInt8}(h:down=true\/¬(0<=n/\n<=(secs.length:Int)-1)\/120<b.length\/40<=cache.length):wrC secs cache fuse down n b=(cache,fuse,down):=if_pos h
theorem Ydg {secs:List (List UInt8)}{cache:List Wr}{fuse:Int}{down:Bool}{n:Int}{b:List UInt8}(h:¬(down=true\/¬(0<=n/\n<=(secs.length:Int)-1)\/120<b.length\/40<=cache.length)) (hf:fuse=0):wrC secs cache fuse down n b=(cache,-1,true):=by
 rw[wrC,if_neg h,if_pos hf]
theorem Zb9 {secs:List (List UInt8)}{cache:List Wr}{fuse:Int}{down:Bool}{n:Int}{b:List UInt8}(h:¬(down=true\/¬(0<=n/\n<=(secs.length:Int)-1)\/120<b.length\/40<=cache.length)) (hf:¬fuse=0):wrC secs cache fuse down n b=(cache++[(n,b)],opF fuse,down):=by
 rw[wrC,if_neg h,if_neg hf]
def Zir (secs:List (List UInt8)) (cache:List Wr) (fuse:Int) (down:Bool) (n:Int) (b:List UInt8):List Wr×Int×Bool:=if Cj secs cache fuse=true then wrC secs cache fuse down n b else (cache,fuse,down)
theorem Ydh {secs:List (List UInt8)}{cache:List Wr}{fuse:Int}{down:Bool}{n:Int}{b:List UInt8}(h:Cj secs cache fuse=true):Zir secs cache fuse down n b=wrC secs cache fuse down n b:=if_pos h
theorem Yxh {secs:List (List UInt8)}{cache:List Wr}{fuse:Int}{down:Bool}{n:Int}{b:List UInt8}(h:Cj secs cache fuse=false):Zir secs cache fuse down n b=(cache,fuse,down):=by rw[Zir,h];rfl
theorem Ms {secs:List (List UInt8)}{cache:List Wr}{fuse:Int}(h:Cj secs cache fuse=true):(1<=secs.length/\secs.length<=64)/\cache.length<=40/\(-1<=fuse/\fuse<=1000)/\(∀b∈secs,b.length<=120)/\∀w∈cache,0<=w.1/\w.1<=(secs.length:Int)-1/\w.2.length<=120:=of_decide_eq_true h
end Go.Vs
namespace Go.Vs
variable [Glb]
theorem Yu1 {S:St}{K:KW}{x v:Opd}{r i c sz0 ry iy cy szy sz n:Nat}{p:Af}{es ys esy:List (List D)}{m:Nat×List (List D)}{e ey:List D}(hx:S.opd x=.a (.c (.pe r p i c))) (hv:S.opd v=.a (.c (.rf ry [(iy,cy)] sz 0 n))) (hr:get S.roots r=some (.tr sz0 es)) (hy:get S.roots ry=some (.tr szy esy)) (hey:esy[iy]? = some ey) (hcy:ey[cy]? = some (.sl sz ys)) (hny:n=ys.length) (hne:ry≠r) (hn:Am sz0 es p=some m) (he:m.2[i]? = some e) (hc:c<e.length) (hfix:S.fix<=r)
  (hK:K .un [(r,p++[(i,c)])] (put (S5 r (p++[(i,c)]) (put S.roots ry (.tr szy (Dc esy [] iy cy .hole)))) r (.tr sz0 (Dc es p i c (.sl sz ys)))) S.next):wr S K (.store 1 x v):=by
 subst hny;simp only[wr,hx,hv];refine⟨[.rf ry [(iy,cy)] sz 0 ys.length],rfl,rfl,e, ?_,by omega,⟨sz0,es,hr⟩,(_,_), ?_,hK⟩
 ·simp only[St.node,hr,hn,Kra];exact he
 ·have hr1:get (put S.roots ry (.tr szy (Dc esy [] iy cy .hole))) r=some (.tr sz0 es):=by rw[Ax,if_neg (fun h=>hne h),hr]
  have hh:Oh sz0 es p i c=true:=Yn8 hn he hc;have hnd:Am szy esy [(iy,cy)]=some (sz,ys):=by simp only[Am,hey,hcy,Kra]
  have hcut:Sf esy [(iy,cy)]=Dc esy [] iy cy .hole:=rfl;simp only[Ht,A7,Dd,hy,hnd,and_self,Kc,if_true,Kjc,Eu,hcut,hr1,Ki,Kga,hh,hfix,Kl]
def wH (l:List Wr) (i:Nat):List (List D):=(l.take i).map (fun w=>[.lf (.int .i64 w.1),.hole])++wD (l.drop i)
@[simp] theorem Yyh (l:List Wr) (i:Nat):(wH l i).length=l.length:=by simp [wH];omega
theorem Xh {l:List Wr}{i:Nat}(h:i<l.length):(wH l i)[i]? = some [.lf (.int .i64 l[i].1),.sl 1 (bD l[i].2)]:=by
 have hl:((l.take i).map (fun w=>[D.lf (.int .i64 w.1),.hole])).length=i:=by simp;omega
 rw[wH,Kia (by omega),hl,Kre,Yw6 (by simp;omega)];simp
theorem Yw8 {l:List Wr}{i:Nat}(h:i<l.length):Dc (wH l i) [] i 1 .hole=wH l (i+1):=by
 have hl:((l.take i).map (fun w=>[D.lf (.int .i64 w.1),.hole])).length=i:=by simp;omega
 simp only[Dc,Dx,Fi,Xh h,List.set_cons_succ,Kwf];rw[wH,wH,Ktf _ _ (by omega),hl,Kre,Kwb h,Kbc h];simp only[wD,wE,Ke,Kwf,Kx,Ktb,Kva,Kkf]
def flL (s:List (List UInt8)) (l:List Wr):List (List UInt8):=l.foldl (fun s w=>s.set w.1.toNat w.2) s
@[simp] theorem Zp (s:List (List UInt8)) (l:List Wr):(flL s l).length=s.length:=by
 induction l generalizing s with
 | nil=>rfl
 | cons w l ih=>simp only[flL,Krc]at ih ⊢;rw[ih];simp
theorem Zva {s:List (List UInt8)}{l:List Wr}{i k:Nat}(h:i<l.length) (hk:l[i].1=(k:Int)):flL s (l.take (i+1))=(flL s (l.take i)).set k l[i].2:=by
 rw[Kbc h];simp only[flL,Kzd,Krc,Ksf,hk,Knb]
theorem Zu9 {m:Nat}:∀{l:List Wr}{s:List (List UInt8)},(∀b∈s,b.length<=m)->(∀w∈l,w.2.length<=m)->∀b∈flL s l,b.length<=m
 | [],s,hs,hl=>hs
 | w::l,s,hs,hl=>by
  refine Zu9 (l:=l) (s:=s.set w.1.toNat w.2) (fun b hb=>?_) (fun x hx=>hl x (Km _ hx));rcases List.mem_or_eq_of_mem_set hb with h|h
  ·exact hs b h
  ·rw[h];exact hl w Kq
abbrev Dv:=List (List UInt8)×List Wr×Int×Bool
def flC (secs:List (List UInt8)) (cache:List Wr) (fuse:Int) (down:Bool):Dv :=
 if down=true then (secs,cache,fuse,down) else if fuse=0 then (secs,cache,-1,true) else (flL secs cache,[],opF fuse,down)
theorem Zu4 {secs:List (List UInt8)}{cache:List Wr}{fuse:Int}{down:Bool}(h:down=true):flC secs cache fuse down=(secs,cache,fuse,down):=if_pos h
theorem Zu6 {secs:List (List UInt8)}{cache:List Wr}{fuse:Int}(h:fuse=0):flC secs cache fuse false=(secs,cache,-1,true):=by rw[flC,if_neg (by decide),if_pos h]
theorem Vn {secs:List (List UInt8)}{cache:List Wr}{fuse:Int}(h:¬fuse=0):flC secs cache fuse false=(flL secs cache,[],opF fuse,false):=by rw[flC,if_neg (by decide),if_neg h]
def Zfp (secs:List (List UInt8)) (cache:List Wr) (fuse:Int) (down:Bool):Dv:=if Cj secs cache fuse=true then flC secs cache fuse down else (secs,cache,fuse,down)
theorem Zu7 {secs:List (List UInt8)}{cache:List Wr}{fuse:Int}{down:Bool}(h:Cj secs cache fuse=true):Zfp secs cache fuse down=flC secs cache fuse down:=if_pos h
theorem Yjj {secs:List (List UInt8)}{cache:List Wr}{fuse:Int}{down:Bool}(h:Cj secs cache fuse=false):Zfp secs cache fuse down=(secs,cache,fuse,down):=by rw[Zfp,h];rfl
end Go.Vs
namespace Go.Vs
variable [Glb]
def SmD (x:Dv):Prop:=x.1.length<=1048576/\(∀b∈x.1,b.length<=1048576)/\x.2.1.length<=1048577/\∀w∈x.2.1,w.2.length<=1048576
def Sz (n:Int) (i:Nat):Bool:=decide (i<30)&&(Int.toNat n / 2^i%2==1)
def faL (n:Int):Nat->List (List UInt8)->List Wr->List (List UInt8)
 | _,s,[]=>s
 | i,s,w::l=>faL n (i+1) (if Sz n i then s.set w.1.toNat w.2 else s) l
theorem Zuv (n:Int):∀(l:List Wr) (i:Nat) (s:List (List UInt8)),(faL n i s l).length=s.length
 | [],_,_=>rfl
 | w::l,i,s=>by simp only[faL];rw[Zuv];split<;>simp
theorem Zuu (n:Int):∀(l r:List Wr) (i:Nat) (s:List (List UInt8)),faL n i s (l++r)=faL n (i+l.length) (faL n i s l) r
 | [],r,i,s=>by simp [faL]
 | w::l,r,i,s=>by simp only[Kn,faL,Zuu n l r,Kf];rw[show i+1+l.length=i+(l.length+1) by omega]
theorem Yjd {n:Int}{s:List (List UInt8)}{l:List Wr}{i k:Nat}(h:i<l.length) (hk:l[i].1=(k:Int)):faL n 0 s (l.take (i+1))=if Sz n i then (faL n 0 s (l.take i)).set k l[i].2 else faL n 0 s (l.take i):=by
 rw[Kbc h,Zuu];have hl:(l.take i).length=i:=by simp;omega
 simp only[faL,hl,Kr,hk,Knb]
def faN (n:Int):Int:=if 0<=n/\n<=1073741823 then n else 0
def Zfi (secs:List (List UInt8)) (cache:List Wr) (fuse:Int) (down:Bool) (n:Int):Dv :=
 if Cj secs cache fuse=true then (faL (faN n) 0 secs cache,[],-1,false) else (secs,cache,fuse,down)
theorem Zut {secs:List (List UInt8)}{cache:List Wr}{fuse:Int}{down:Bool}{n:Int}(h:Cj secs cache fuse=true):Zfi secs cache fuse down n=(faL (faN n) 0 secs cache,[],-1,false):=if_pos h
theorem Yjc {secs:List (List UInt8)}{cache:List Wr}{fuse:Int}{down:Bool}{n:Int}(h:Cj secs cache fuse=false):Zfi secs cache fuse down n=(secs,cache,fuse,down):=by rw[Zfi,h];rfl
theorem Yje (n:Int):0<=faN n/\faN n<=1073741823:=by unfold faN;split<;>omega
end Go.Vs
namespace Go.Vs
variable [Glb]
theorem Yer {n:Int}(h:0<=n/\n<=1073741823) (i:Nat):IntKind.i64.wrap (((BitVec.ofInt IntKind.i64.bits (n.fdiv (2^i))&&&BitVec.ofInt IntKind.i64.bits 1).toNat:Nat):Int)=((n.toNat / 2^i%2:Nat):Int):=by
 obtain⟨m,rfl⟩:∃m:Nat,n=m:=⟨n.toNat,by omega⟩;have e:(m:Int).fdiv (2^i)=((m / 2^i:Nat):Int):=by
  rw[Kng _ (by exact Int.le_of_lt (Int.pow_pos (by decide)))];simp
 rw[e,Knb];exact Yd6 (a:=m / 2^i) (k:=1) (m:=1) (Kyf (Nat.div_le_self _ _) (by omega)) (by decide) (by decide)
def wP (p:Nat->Bool):Nat->List Wr->List (List D)
 | _,[]=>[]
 | i,w::l=>[.lf (.int .i64 w.1),if p i then .hole else .sl 1 (bD w.2)]::wP p (i+1) l
@[simp] theorem Yw9 (p:Nat->Bool):∀(l:List Wr) (i:Nat),(wP p i l).length=l.length
 | [],_=>rfl
 | w::l,i=>by simp only[wP,Kf,Yw9 p l]
def kb (n:Int) (i:Nat) (j:Nat):Bool:=decide (j<i)&&Sz n j
theorem Ypv {n:Int}{i:Nat}(h:i<30) (h2:((n.toNat / 2^i%2:Nat):Int)=1):Sz n i=true:=by
 simp only[Sz,Kd,decide_eq_true_eq,beq_iff_eq];exact⟨h,by omega⟩
theorem Zwz {n:Int}{i:Nat}(h:¬(i<30/\((n.toNat / 2^i%2:Nat):Int)=1)):Sz n i=false:=by
 rw[Bool.eq_false_iff];intro hh;simp only[Sz,Kd,decide_eq_true_eq,beq_iff_eq]at hh;exact h ⟨hh.1,by omega⟩
end Go.Vs
namespace Go.Vs
variable [Glb]
end Go.Vs
namespace Go.Vs
def Zi7 (P:Program) (W:World) (n:String) (d:DataW Unit):Prop :=
 ∃g t cs fuel p,P.globalNamed n=some g/\(P.globals[g]?).map (·.type)=some t/\W.var? P n=some cs/\DataW.trod (fun _=>()) P W 0 (fun _=>true) false fuel t cs.toList=some (d,p)
theorem Zox {P:Program}{W:World}{n:String}{d:DataW Unit}:∀{l:List (String×DataW Unit)}{ps:List MemPlace},DataW.LaidVars P W l ps->(n,d)∈l->Zi7 P W n d
 | [],_,_,hm=>by cases hm
 | (m,e)::l,ps,h,hm=>by
  obtain⟨g,t,cs,fuel,p,q,h1,h2,h3,h4,h5,_⟩:=h;cases hm with
  | head=>exact⟨g,t,cs,fuel,p,h1,h2,h3,h4⟩
  | tail _ hm=>exact Zox h5 hm
def Ls (b:UInt8):DataW Unit:=.lit (.int .u8 b.toNat)
def Yby (bs:List UInt8):DataW Unit:=.agg (bs.map Ls)
def Zaq:List UInt8->List (DataW Unit)
 | a::b::l=>.agg [Ls a,Ls b]::Zaq l
 | _=>[]
theorem Zyu:∀(l:List UInt8) (i:Nat) (a b:UInt8),l[2*i]? = some a->l[2*i+1]? = some b->(Zaq l)[i]? = some (.agg [Ls a,Ls b])
 | [],i,a,b,h,_=>by simp at h
 | [x],i,a,b,h,k=>by cases i<;>simp at k
 | x::y::l,0,a,b,h,k=>by
  simp only[Nat.mul_zero,Kv,Ka]at h;simp only[Nat.mul_zero,Kr,Koa,Kv,Ka]at k;subst h k;rfl
 | x::y::l,i+1,a,b,h,k=>by
  rw[show 2*(i+1)=2*i+1+1 by omega,Koa,Koa]at h;rw[show 2*(i+1)+1=2*i+1+1+1 by omega,Koa,Koa]at k;exact Zyu l i a b h k
theorem Zst {W:World}{g o:Nat}{v:Value}(h:W.cell? ⟨g,o,none⟩=some v):g<W.heap.size:=by
 rcases Kfc g W.heap.size with k|k
 ·exact k
 ·simp only[World.cell?,Kie k]at h;cases h
theorem Zn9 {P:Program}{W:World}{fuel:Nat}{e:TypeId}{cs:List Value}{i:Nat}{b:UInt8}{x:DataW Unit×List MemPlace}(he:P.underlying e=some (.int .u8)) (h:DataW.trod (fun _=>()) P W 0 (fun _=>true) false fuel e ((cs.drop i).take 1)=some x) (hx:x.1=Ls b):cs[i]? = some (.int .u8 b.toNat):=by
 obtain⟨z,e1,e2,_⟩:=DataW.trod_int he h;rw[e2]at hx;simp only[Ls,DataW.lit.injEq,Lit.int.injEq,true_and]at hx;subst hx;have h0:((cs.drop i).take 1)[0]? = some (.int .u8 (b.toNat:Int)):=by rw[e1];rfl
 simpa using h0
theorem Yvn {P:Program}{W:World}{n:String}{g t e N:Nat}{bs:List UInt8}(hg:P.globalNamed n=some g) (hty:(P.globals[g]?).map (·.type)=some t) (ht:P.underlying t=some (.array N e)) (he:P.underlying e=some (.int .u8)) (hc:P.cellsOf e=1) (hr:Zi7 P W n (Yby bs)) :
  ∀(o:Nat) (y:UInt8),bs[o]? = some y->g<W.heap.size/\W.cell? ⟨g,o,none⟩=some (.int .u8 y.toNat):=by
 obtain⟨g',t',cs,fuel,p,hg',hty',hv,hd⟩:=hr;rw[hg]at hg';cases hg';rw[hty]at hty';cases hty';obtain⟨xs,m,_,ex,_,hl,hel⟩:=DataW.trod_array ht hd;have e3:xs.map (·.1)=bs.map Ls:=(DataW.agg.inj (Prod.mk.inj ex).1).symm;intro o y hy;have hlen:xs.length=bs.length:=by simpa using congrArg List.length e3
 have ho:o<bs.length:=(Kfa.1 hy).1;have hE:=hel o (by omega);rw[hc,Kgd,Ku (by omega)]at hE;have e4:(xs.map (·.1))[o]? = (bs.map Ls)[o]?:=by rw[e3]
 rw[Kba,Kba,Ku (by omega),hy]at e4;simp only[Kha,Ka]at e4;have h1:=Zn9 he hE e4;have h2:W.cell? ⟨g,o,none⟩=some (.int .u8 y.toNat):=by rw[World.var?_cell hg hv o];simpa using h1
 exact⟨Zst h2,h2⟩
theorem Yr1 {P:Program}{W:World}{n:String}{g t s N:Nat}{f0 f1:Field}{bs:List UInt8}(hg:P.globalNamed n=some g) (hty:(P.globals[g]?).map (·.type)=some t) (ht:P.underlying t=some (.array N s)) (hs:P.underlying s=some (.struct #[f0,f1])) (h0:P.underlying f0.type=some (.int .u8)) (h1:P.underlying f1.type=some (.int .u8)) (c0:P.cellsOf f0.type=1) (c1:P.cellsOf f1.type=1) (o0:f0.offset=0) (o1:f1.offset=1) (hc:P.cellsOf s=2) (hN:bs.length=2*N) (hr:Zi7 P W n (.agg (Zaq bs))) :
  ∀(o:Nat) (y:UInt8),bs[o]? = some y->g<W.heap.size/\W.cell? ⟨g,o,none⟩=some (.int .u8 y.toNat):=by
 obtain⟨g',t',cs,fuel,p,hg',hty',hv,hd⟩:=hr;rw[hg]at hg';cases hg';rw[hty]at hty';cases hty';obtain⟨xs,m,_,ex,_,hl,hel⟩:=DataW.trod_array ht hd;have e3:xs.map (·.1)=Zaq bs:=(DataW.agg.inj (Prod.mk.inj ex).1).symm;intro o y hy;have ho:o<bs.length:=(Kfa.1 hy).1
 -- the pair it stands in
 have key:∀i,i<N->∃a b:UInt8,bs[2*i]? = some a/\bs[2*i+1]? = some b/\cs.toList[2*i]? = some (.int .u8 a.toNat)/\cs.toList[2*i+1]? = some (.int .u8 b.toNat):=by
  intro i hi;refine⟨bs[2*i]'(by omega),bs[2*i+1]'(by omega),Ku _,Ku _, ?_⟩;have hE:=hel i hi;rw[hc,Ku (by omega)]at hE;have hp:=Zyu bs i _ _ (Ku (show 2*i<bs.length by omega)) (Ku (show 2*i+1<bs.length by omega));rw[<-e3,Kba,Ku (by omega)]at hp;simp only[Kha,Ka]at hp;obtain⟨ys,k,_,ey,_,_,hf⟩:=DataW.trod_struct hs hE;have hy1:ys.map (·.1)=[Ls (bs[2*i]'(by omega)),Ls (bs[2*i+1]'(by omega))]:=by
   rw[ey]at hp;exact DataW.agg.inj hp
  match ys,hy1 with
  | [u,v],hy1 =>
   simp only[Ke,Ktb,List.cons.injEq,and_true]at hy1;have q0:=hf 0 f0 rfl;have q1:=hf 1 f1 rfl;rw[o0,c0]at q0;rw[o1,c1]at q1;have r0:=Zn9 h0 q0 hy1.1;have r1:=Zn9 h1 q1 hy1.2;rw[Kwa,if_pos (by omega),Kdb]at r0 r1;rw[show i*2+0=2*i by omega]at r0;rw[show i*2+1=2*i+1 by omega]at r1;exact⟨r0,r1⟩
 obtain⟨a,b,k1,k2,k3,k4⟩:=key (o / 2) (by omega);have h2:W.cell? ⟨g,o,none⟩=some (.int .u8 y.toNat):=by
  rw[World.var?_cell hg hv o,<-Khf];rcases (show o=2*(o / 2)\/o=2*(o / 2)+1 by omega) with h|h
  ·rw[<-h]at k1 k3;rw[hy]at k1;cases k1;exact k3
  ·rw[<-h]at k2 k4;rw[hy]at k2;cases k2;exact k4
 exact⟨Zst h2,h2⟩
theorem Yjx {bs cs:List UInt8}{W:World}(h0:∀(o:Nat) (y:UInt8),bs[o]? = some y->0<W.heap.size/\W.cell? ⟨0,o,none⟩=some (.int .u8 y.toNat)) (h1:∀(o:Nat) (y:UInt8),cs[o]? = some y->1<W.heap.size/\W.cell? ⟨1,o,none⟩=some (.int .u8 y.toNat)) :
  ∀b o v,@F0 ⟨[(0,bs),(1,cs)]⟩ b o=some v->b<W.heap.size/\W.cell? ⟨b,o,none⟩=some v:=by
 intro b o v h
 match b,h with
 | 0,h =>
  have e:@F0 ⟨[(0,bs),(1,cs)]⟩ 0 o=(match bs[o]? with|some y=>some (.int .u8 y.toNat)|none=>none):=rfl;rw[e]at h;split at h
  ·rename_i y hy;cases h;exact h0 o y hy
  ·cases h
 | 1,h =>
  have e:@F0 ⟨[(0,bs),(1,cs)]⟩ 1 o=(match cs[o]? with|some y=>some (.int .u8 y.toNat)|none=>none):=rfl;rw[e]at h;split at h
  ·rename_i y hy;cases h;exact h1 o y hy
  ·cases h
 | b+2,h =>
  have e:@F0 ⟨[(0,bs),(1,cs)]⟩ (b+2) o=none:=rfl;rw[e]at h;cases h
end Go.Vs
