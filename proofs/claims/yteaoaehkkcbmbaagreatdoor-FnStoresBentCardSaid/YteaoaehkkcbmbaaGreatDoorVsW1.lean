import Derived.Lib.ConvBytes
import Derived.Test.YteaoaehkkcbmbaaGreatDoorVsW0
set_option linter.all false
namespace Go.Vs
variable [Glb]
variable {P:Program} {N:Nat} {w0:World} {own0:Nat->Nat->Prop} {pl0:Aw} {g:Bp} {pl:Aw} {S:St} {a:Act} {w:World} {K:V->List (Nat×Ao)->List (Nat×Root)->Nat->Prop}
def qA{S:St}:∀(b:List (Nat×Nat×Opd)) (d c:List C),Ie S d b=some c->c.length=d.length
 |[],d,c,h=>by simp only[Ie,Ac]at h;subst h;rfl
 |(f,i,x)::b,d,c,h=>by
  unfold Ie at h;split at h
  .split at h
   .rename_i e;rw[qA b _ c h];simp;omega
   simp at h
  simp at h
def wb{t:TypeId}{e:Nat}:∀(b:List (Nat×Operand)) (c:List (Nat×Opd)),Xc P t b=some c ->
  Ai (λ(p:Nat×Operand) (o:Nat×Nat×Opd)=>(λi=>some (i*e,e)) p.1=some (o.1,o.2.1)/\∃k,BL P k p.2=some o.2.2) b (c.map λx=>(x.1*e,e,x.2))
 |[],c,h=>by simp only[Xc,Ac]at h;subst h;trivial
 |(i,x)::b,c,h=>by
  simp only[Xc,Bv,AO,Ac]at h;obtain⟨y,j,d,f,rfl⟩:=h;exact⟨⟨rfl,t,j⟩,wb b d f⟩
def Zqd(Q:Rel N w0 own0 pl0 g pl S a w){t:TypeId}{len:Nat}{f:Array (Nat×Operand)}{j:W}(F:E1 P (.buildSlice t len f)=some j)(h:wr S K j):
  MO P w0 own0 pl0 pl S K (Instr.buildSlice t len (f.map λ(i,x)=>(i,a.eval x))) w:=by
 simp only[E1]at F;split at F
 .rename_i e M;simp only[Bv,AO]at F;obtain⟨i,hi,z,hz,zc,b7,F⟩:=F;split at F
  .rename_i U;obtain⟨E,c0,b0⟩:=U;simp only[AO,Ac]at F;obtain⟨b2,Z,rfl⟩:=F;have q:∀A,Ie S (AQ len zc) (b2.map λx=>(x.1*i.size,i.size,x.2))=some A->∃b:Array Value,Ai (CR pl S.next) A b.toList/\b.size=len*i.size/\A.length=len*i.size/\(Instr.buildSlice t len (f.map λ(i,x)=>(i,a.eval x))).run P w=.ok (.slice (some ⟨w.heap.size,0,none⟩) len len) (w.alloc (.cells b e)):=by
    intro A D;have I:=Ow (pl:=pl) (nx:=S.next) b7;have a9:=I.length;have b8:z.cells.size=i.size:=by rw[<-Hh,<-a9,E]
    have T:Ai (CR pl S.next) (AQ len zc) (madeCells z.cells (len*i.size)).toList:=by
     refine Ai.of_get (by rw[tV,E,Hh,size_madeCells]) λk x u O M=>?_;have hk:k<len*i.size:=by have:=getElem?_lt M;simpa[size_madeCells] using this
     have b5:k / i.size*i.size+k%i.size=k:=by rw[Je];exact U7 _ _
     have h1:=tU (l:=zc) len (k / i.size) (k%i.size) (U6 (by rw[Je];exact hk)) (by rw[E];exact KG _ b0);rw[E,b5,O]at h1;obtain⟨u',e1,e2⟩:=I.get _ _ h1.symm;have h2:=rp z.cells (len*i.size) (by omega) k hk;rw[b8]at h2;simp only[Yk]at M e1;rw[h2,e1]at M;simp only[Ac]at M;subst M;exact e2
    obtain⟨b,X,m⟩:=aG Q (λk=>some (k*i.size,i.size)) f.toList _ _ _ A (wb _ _ Z) T D;have C:A.length=len*i.size:=by rw[qA _ _ _ D,tV,E]
    have G:b.size=len*i.size:=by rw[<-Hh,<-m.length,C]
    have o:(Instr.buildSlice t len (f.map λ(i,x)=>(i,a.eval x))).run P w=.ok (.slice (some ⟨w.heap.size,0,none⟩) len len) (w.alloc (.cells b e)):=by
     have B:Instr.fill (λk=>some (k*i.size,i.size)) ((Array.range (len*i.size)).map (z.cells[·%z.cells.size]!)) (f.map λ(x:Nat×Operand)=>(x.1,a.eval x.2)).toList=some b:=by
      simpa[madeCells] using X
     have J:¬(len*i.size > 2^24):=by omega
     by_cases Y:len*i.size=0
     .have:madeCells z.cells (len*i.size)=(Array.range (len*i.size)).map ((#[]:Array Value)[·%(#[]:Array Value).size]!):=by rw[Y];apply Array.ext';simp[madeCells]
      have H:Instr.fill (λk=>some (k*i.size,i.size)) ((Array.range (len*i.size)).map ((#[]:Array Value)[·%(#[]:Array Value).size]!)) (f.map λ(x:Nat×Operand)=>(x.1,a.eval x.2)).toList=some b:=by
       rw[<-this];simpa[madeCells] using B
      simp only[Instr.buildSlice,Sem.run_bind,run_underlying M,Result.andThen_ok,sizeOf,typeInfo,run_program,hi,Sem.run_pure];rw[Ae J,Af Y];simp only[Sem.run_bind,Sem.run_pure,Result.andThen_ok];rw[H];simp[newRow]
     simp only[Instr.buildSlice,Sem.run_bind,run_underlying M,Result.andThen_ok,sizeOf,typeInfo,run_program,hi,Sem.run_pure];rw[Ae J,Ae Y];simp only[Sem.run_bind,zeroValue,typeInfo,run_program,hi,hz,Sem.run_pure,Result.andThen_ok];rw[B];simp[newRow]
    exact⟨b,m,G,C,o⟩
   rcases h with ⟨A,D,a0,b1,hK⟩|⟨A,D,hK⟩
   .obtain⟨b,m,G,C,o⟩:=q A D;have b3:=Q.hp.fresh b e len i.size G;have b4:=hV m;have O:=b3.extendZ (r:=S.next) (sz:=i.size) (es:=[]) (by simp[get]) (by have:=Q.hp.fixle;omega) (AE _) (EO i.size len (G8 A b.toList)) (λe' V=>yF (by rw[b4,C]) V) (by rw[CU,Qd];simp) (by
     intro i' e' c' d V hd;rw[CU];simp only[Ay,A7];obtain⟨c3,c1,hg⟩:=yE V hd;obtain⟨c,u,c2,b6,rfl,a7⟩:=qX m _ _ hg;refine⟨u, ?_, ?_⟩
     .rw[World.cell?_alloc_new];simpa using b6
     .cases c with
      |nl s=>exact .inr ⟨s,rfl,a7⟩
      |_=>exact .inl ⟨rfl,a7.one⟩)
    simp only[A0,Ay]at O;have a6:FO S.next pl (GE (FY pl S.next λ_=>⟨false,w.heap.size,0,len,i.size,none⟩) S.next (EO i.size len (G8 A b.toList)) 0):=by
     intro r p hr;rw[Wo (AE _) r p hr,D6 _ _ _ _ _ hr]
    obtain⟨g',b9,c4,a1,a2,a3,a4,a5⟩:=rk (R:=S.next) (sz:=i.size) (len:=len) (by have:=Q.hp.fixle;omega) (AE _) (plI:=pl) A b.toList [] S.roots _ _ _ a0 (O.roots_eq (by
     intro t';rw[Bn];simp only[get];split
     .simp
     .rfl)) (by omega) (by simp[C]) m a6 b1
    simp only[A0]at a1;have a8:∀t x,get ((S.next,Root.tr i.size (EO i.size len a0.1))::a0.2) t=some x->t<S.next+1:=by
     intro t x O;simp only[get]at O;split at O
     .omega
     obtain⟨y,hy⟩:=a5 t x O;have:=(Q.hp.roots t y hy).1;omega
    refine NQ hK (v:=.slice (some ⟨w.heap.size,0,none⟩) len len) o ?_ ((a1.trim (n:=S.next+1) (by omega) (by have:=Q.hp.fixle;omega) a8).bump) (λz u hk=>(hk.agree a3).mono (by omega));refine⟨by omega, ?_⟩;have:b9 S.next []=⟨false,w.heap.size,0,len,i.size,none⟩:=by rw[a4,Wp,CU]
    exact Xj (L:=λ_=>default) this (AE _)
   obtain⟨b,m,G,C,o⟩:=q A D;have hb:=Q.hp.newBox A b.toList e m;rw[show b.toList.toArray=b from rfl]at hb;refine⟨.slice (some ⟨w.heap.size,0,none⟩) len len,_,.sb S.next len,[],_,_,_,_,o,⟨DG _, ?_⟩,hb.bump,λz u hk=>(hk.agree (D6 _ _ _)).mono (by omega),hK⟩;rw[CU]
  simp at F
 simp at F
def vN{s:ByteArray}{i:Nat}{e:List D}{c:Nat}{d:D}(f:(Jz s)[i]?= some e)(hd:e[c]?= some d):∃b,s.data[i]?= some b/\c=0/\d=.lf (.int .u8 b.toNat):=by
 simp only[Jz,CQ,BP]at f;obtain⟨b,h,rfl⟩:=f;cases c with
 |zero=>simp at hd;exact⟨b,by simpa using h,rfl,hd.symm⟩
 |succ c=>simp at hd
def lI(s:ByteArray):(Jz s).length=s.size:=by simp[Jz]
def Zqf(B:Rel N w0 own0 pl0 g pl S a w){s d:TypeId}{x:Operand}{j:W}(n:E1 P (.convert s d x)=some j)(h:wr S K j):
  MO P w0 own0 pl0 pl S K (convert s d (a.eval x)) w:=by
 simp only[E1,Bv,AO]at n;obtain⟨x',y,n⟩:=n;have H:=Cc B y;split at n
 .rename_i e hs hd;split at n
  .rename_i Q;simp only[Ac]at n;subst n;simp only[wr]at h;split at h
   .rename_i c he;rw[he]at H;obtain⟨hv,_⟩:=BQ H;have G:=Lib.run_convert_string_bytes (P:=P) w s d e c hs hd Q;obtain⟨f,k⟩:∃f,f=grownCap w c.size 0 e:=⟨_,rfl⟩;have F:c.size<=f:=by rw[k];exact grownCap_ge w c.size 0 e
    have a1:c.data.size=c.size:=rfl;have q:(Lib.bytesCells w e c).size=f*1:=by simp[Lib.bytesCells,<-k];omega
    have E:=B.hp.fresh (Lib.bytesCells w e c) e f 1 q;have t:=Lib.bytesWorld_at_new w e c;have D:∀j,(Lib.bytesWorld w e c).cell? ⟨w.heap.size,j,none⟩=(Lib.bytesCells w e c)[j]?:=by
     intro j;simp[World.cell?,t]
    have m:∀b o,b≠w.heap.size->(Lib.bytesWorld w e c).cell? ⟨b,o,none⟩=w.cell? ⟨b,o,none⟩/\(Lib.bytesWorld w e c).frozen? ⟨b,o,none⟩=w.frozen? ⟨b,o,none⟩:=by
     intro b o i;rcases Jc b w.heap.size with U|X
     .have:=Lib.bytesWorld_at_old w e c b U;exact⟨World.cell?_of_block this,World.frozen?_of_block this⟩
     have H:(Lib.bytesWorld w e c).heap[b]?= none:=U8 (by rw[Lib.bytesWorld_size];omega);have h2:w.heap[b]?= none:=U8 (by omega);simp[World.cell?,World.frozen?,H,h2]
    have hF:Fr w0 own0 (Lib.bytesWorld w e c):=by
     have A:=B.hp.fr;have a0:=A.size;refine⟨?_, ?_, ?_,by rw[Lib.bytesWorld_size];omega,λb i I=>by rw[Lib.bytesWorld_at_old w e c b (by omega)];exact A.block b i I,λb o i I=>by
      obtain⟨J,M⟩:=m b o (by omega);rw[J,M];exact A.cell b o i I,A.gl⟩
     .have:(Lib.bytesWorld w e c).os=w.os:=by unfold Lib.bytesWorld World.freeze;split<;>rfl
      rw[this];exact A.os
     .have:(Lib.bytesWorld w e c).tape=w.tape:=by unfold Lib.bytesWorld World.freeze;split<;>rfl
      rw[this];exact A.tape
     have:(Lib.bytesWorld w e c).output=w.output:=by unfold Lib.bytesWorld World.freeze;split<;>rfl
     rw[this];exact A.output
    have R:=E.congr hF (by rw[Lib.bytesWorld_size];simp) (by
     intro b o x y;by_cases i:b=w.heap.size
     .subst i;simp only[Nt,BF]at y;split at y
      .rename_i I;rw[D,World.cell?_alloc_new,World.frozen?_alloc_new];refine⟨rfl, ?_⟩;simp[World.frozen?,t,q];omega
      simp at y
     .obtain⟨J,M⟩:=m b o i;rw[J,M,World.cell?_alloc_old w _ _ (by simpa using i),World.frozen?_alloc_old w _ _ (by simpa using i)];exact⟨rfl,rfl⟩) (by
     intro b o V;have:=B.hp.fr.size;have i:b≠w.heap.size:=by have:=V.1;omega
     rw[(m b o i).1,World.cell?_alloc_old w _ _ (by simpa using i)])
    have y:=R.extendZ (r:=S.next) (sz:=1) (es:=[]) (by simp[get]) (by have:=B.hp.fixle;omega) (AE _) (Jz c) (λZ l=>by
     simp only[Jz,CC]at l;obtain⟨b,_,rfl⟩:=l;rfl) (by rw[CU,lI];simpa using F) (by
     intro i' Z c' dd l O;obtain⟨b,i,rfl,rfl⟩:=vN l O;rw[CU];have T:=getElem?_lt l;rw[lI]at T;refine⟨.int .u8 b.toNat, ?_,.inl ⟨rfl,rfl⟩⟩;simp only[Ay,A7,Og,AL];rw[D];simp only[Lib.bytesCells];rw[Oh (by simp;omega)];simp[i])
    simp only[A0,Ay]at y;have C:FO S.next pl (GE (FY pl S.next λ_=>⟨false,w.heap.size,0,f,1,none⟩) S.next (Jz c) 0):=by
     intro r p Y;rw[Wo (AE _) r p Y,D6 _ _ _ _ _ Y]
    refine NQ h (v:=.slice (some ⟨w.heap.size,0,none⟩) c.size f) (by rw[hv,G,<-k]) (pl':=GE (FY pl S.next λ_=>⟨false,w.heap.size,0,f,1,none⟩) S.next (Jz c) 0) ⟨by omega,Xj (L:=λ_=>default) (by rw[Wp,CU]) F⟩ (y.bump.roots_eq ?_) (λz u hk=>(hk.agree C).mono (by omega));intro t';rw[Bn];simp only[get];split
    .simp
    rfl
   exact h.elim
  simp at n
 simp at n
end Go.Vs
namespace Go.Vs
variable [Glb]
section
variable {P:Program}
def Zlv{t u C e:TypeId}{i:TypeInfo}{h:TypeDesc}(z:P.underlying t=some (.slice e))(A:P.underlying u=some h)(l:∀k,h≠.int k)(x:P.info? e=some i)(w:World)
  {b o n c m:Nat} {y:Value} {a:List Value} (f:∀r,(Builtin.lenOf y).run P r=.ok m r) (q:(Builtin.firstCells i.size m y).run P w=.ok a.toArray w)
  (d:n+m<=c) (s:∀v∈a,v.oneCell'=true) (p:∀j,j<a.length->(∃u,w.cell? ⟨b,o+n*i.size+j,none⟩=some u)/\w.frozen? ⟨b,o+n*i.size+j,none⟩=false):
  (Builtin.append_ #[t,u] C #[.slice (some ⟨b,o,none⟩) n c,y]).run P w=.ok (.slice (some ⟨b,o,none⟩) (n+m) c) (Iy w b (o+n*i.size) a):=by
 have g:=bm (P:=P) b a w (o+n*i.size) 0 s (by simpa using p);simp only[AL]at g;have B:(match h with|.int _=>true|_=>false)=false:=by
  cases h<;>first|rfl|exact H4 rfl (l _)
 simp[Builtin.append_,run_underlying z,run_underlying A,sizeOf,typeInfo,x,f,B,d,q,Addr.add_lit,g]
def tm{t u n e:TypeId}{i:TypeInfo}{c:TypeDesc}(j:P.underlying t=some (.slice e))(l:P.underlying u=some c)(d:∀k,c≠.int k)(h:P.info? e=some i)(w:World)
  {A:Option Addr} {a:Nat} {y:Value} (b:∀g,(Builtin.lenOf y).run P g=.ok 0 g) (f:(Builtin.firstCells i.size 0 y).run P w=.ok #[] w):
  (Builtin.append_ #[t,u] n #[.slice A 0 a,y]).run P w=.ok (.slice A 0 a) w:=by
 have m:(match c with|.int _=>true|_=>false)=false:=by
  cases c<;>first|rfl|exact H4 rfl (d _)
 cases A<;>simp[Builtin.append_,run_underlying j,run_underlying l,sizeOf,typeInfo,h,b,m,f,storeCells]
def tk{t u ty e:TypeId}{i:TypeInfo}{z:Value}{d:TypeDesc}(B:P.underlying t=some (.slice e))(C:P.underlying u=some d)(j:∀k,d≠.int k)(s:P.info? e=some i)(D:i.zero=some z)(h:0<i.bytes)(w:World)
  {A:Option Addr} {n cap m:Nat} {y:Value} {olds a:List Value} (c:∀q,(Builtin.lenOf y).run P q=.ok m q) (o:(Builtin.firstCells i.size n (.slice A n cap)).run P w.drew=.ok olds.toArray w.drew)
  (l:(Builtin.firstCells i.size m y).run P w.drew=.ok a.toArray w.drew) (b:cap<n+m) (r:(n+m)*i.bytes<=140737488355328):
  (Builtin.append_ #[t,u] ty #[.slice A n cap,y]).run P w=.ok (.slice (some ⟨w.heap.size,0,none⟩) (n+m) (grownCap w (n+m) cap e))
   (w.drew.alloc (.cells (olds.toArray++a.toArray++Builtin.zeroCells z.cells (grownCap w (n+m) cap e-(n+m))) e)):=by
 have p:(match d with|.int _=>true|_=>false)=false:=by
  cases d<;>first|rfl|exact H4 rfl (j _)
 have x:¬(n+m<=cap):=by omega
 have v:n+m<=(n+m)*i.bytes:=Nat.le_mul_of_pos_right _ h;have f:¬(281474976710656<Builtin.nextslicecap (n+m) cap*i.bytes):=by have:=growslice_fits b r;omega
 have g:i.bytes≠0:=by omega
 simp[Builtin.append_,run_underlying B,run_underlying C,sizeOf,typeInfo,zeroValue,s,D,c,p,x,g,f,Question.forced,o,l,newRow,grownCap];congr 2;apply Array.ext';simp[EG]
end
section
variable {w0:World} {own0:Nat->Nat->Prop} {pl0:Aw} {g:Bp} {pl:Aw} {roots:List (Nat×Root)} {nx nc fix:Nat} {w:World}
def Hp.newNil(h:Hp w0 own0 pl0 g pl roots nx nc fix w)(t:Nat):
  Hp w0 own0 pl0 g (FY pl nx λ_=>⟨true,0,0,0,t,none⟩) ((nx,.tr t [])::roots) (nx+1) nc fix w:=by
 refine⟨h.fr,λb o x d=>?_,λr p f=>by rw[D6 pl nx _ r p (by have:=h.fixle;omega)];exact h.fixed r p f,by have:=h.fixle;omega,by have:=h.ncle;omega, ?_⟩
 .obtain⟨a,u,c⟩:=h.lab b o x d;exact⟨a,u,by omega⟩
 intro r x d;simp only[get]at d;split at d
 .rename_i e;subst e;simp only[Ac]at d;subst d;refine⟨by omega, ?_⟩;intro p n l;cases p with
  |nil=>
   simp only[AH,Ac]at l;subst l;refine⟨⟨by rw[CU],by rw[CU];simp,by rw[CU];simp,by simp,by simp⟩, ?_⟩;intro j s;rw[CU]at s;simp at s
  |cons a p=>obtain⟨i,c⟩:=a;simp[AH]at l
 obtain⟨f,m⟩:=h.roots r x d;exact⟨by omega,Keep.root' ⟨λb o q y=>⟨y,rfl,rfl⟩,λ_ _ _=>rfl,λq=>D6 _ _ _ _ _ f⟩ (λx v k=>k.agree λr p f=>D6 pl nx _ r p (by have:=h.ncle;omega)) m⟩
end
structure Appended (P:Program) (w0:World) (own0:Nat->Nat->Prop) (pl0:Aw) (g:Bp) (pl:Aw) (roots:List (Nat×Root)) (nx fix:Nat) (w:World) (sz:Nat) (es:List (List D)) (r:Option Nat) (news:List Value) (m:Nat) (s:Sem Value):Prop where
 out:∃v w1 g1 pl1,s.run P w=.ok v w1/\Hp w0 own0 pl0 g1 pl1 ((nx,.tr sz es)::Fh roots r) (nx+1) nx fix w1/\FO nx pl pl1/\Gc (pl1 nx []) sz 0 (es.length+m) v /\
  (∀k u,news[k]?= some u->w1.cell? ⟨(pl1 nx []).b,(pl1 nx []).off+(es.length*sz+k),none⟩=some u) /\
  (∀b o x,g b o=some x->(∀q,r=some q->x≠(q,[]))->w1.cell? ⟨b,o,none⟩=w.cell? ⟨b,o,none⟩) /\
  (∀b o,G2 w0 own0 b o->w1.cell? ⟨b,o,none⟩=w.cell? ⟨b,o,none⟩)
def Zg{P:Program}{w0:World}{Y:Nat->Nat->Prop}{b4:Aw}{g:Bp}{pl:Aw}{G:List (Nat×Root)}{nx a6:Nat}{w:World}(h:Hp w0 Y b4 g pl G nx nx a6 w)
  {x:V} {xv:Value} (hx:VR pl nx x xv) {sz:Nat} {es:List (List D)} {r:Option Nat} (N:Oo G x=some (sz,es,r))
  {t u ty e:TypeId} {i:TypeInfo} {z:Value} {du:TypeDesc} (ht:P.underlying t=some (.slice e)) (hu:P.underlying u=some du) (O:∀k,du≠.int k) (hi:P.info? e=some i) (hz:i.zero=some z) (F:i.size=sz) (b3:z.cells.size=sz) (a7:0<i.bytes)
  {y:Value} {m:Nat} {news:List Value} (C:∀w',(Builtin.lenOf y).run P w'=.ok m w') (a1:(Builtin.firstCells i.size m y).run P w=.ok news.toArray w) (a8:(Builtin.firstCells i.size m y).run P w.drew=.ok news.toArray w.drew)
  (Q:news.length=m*sz) (h1:∀v∈news,v.oneCell'=true) (I:(es.length+m)*i.bytes<=140737488355328):
  Appended P w0 Y b4 g pl G nx a6 w sz es r news m (Builtin.append_ #[t,u] ty #[xv,y]):=by
 unfold Oo at N;split at N
 .-- nil
  rename_i s0;simp only[Ac,A5]at N;obtain⟨rfl,rfl,rfl⟩:=N;have c0:xv=.slice none 0 0:=hx;subst c0;by_cases hm:m=0
  .subst hm;have a3:news=[]:=M9.1 (by simpa using Q);subst a3;have hN:=h.newNil s0;refine⟨_,_,_,_,tm ht hu O hi w C a1,hN,D6 _ _ _, ?_,by simp,λ_ _ _ _ _=>rfl,λ_ _ _=>rfl⟩;rw[CU];exact⟨rfl,by simp,by simp,_,rfl,λ_=>by simp⟩
  have f:=tk (ty:=ty) ht hu O hi hz a7 w (A:=none) (n:=0) (cap:=0) (olds:=[]) C (by simp[Builtin.firstCells]) a8 (by omega) (by simpa using I);have K:=grownCap_ge w (0+m) 0 e;obtain⟨S,a2⟩:∃S,S=grownCap w (0+m) 0 e:=⟨_,rfl⟩;rw[<-a2]at K f;simp only[A7]at K f;have hF:=(h.drew).fresh ((([]:List Value).toArray++news.toArray++Builtin.zeroCells z.cells (S-m))) e S s0 (by
   simp only[mX,d_,Ay,Builtin.zeroCells,mY,mZ,Q,b3];rw[A7,<-Fn];congr 1;omega)
  refine⟨_,_,_,_,f,hF,D6 _ _ _, ?_, ?_, ?_, ?_⟩
  .simp only[Ay,A7];exact Xj (L:=λ_=>default) (by rw[CU];rfl) K
  .intro k v hk;rw[CU];simp only[Ay,Nat.zero_mul,A7];have b6:=getElem?_lt hk;rw[World.cell?_alloc_new];rw[Oh (by simp;omega)];simpa using hk
  .intro b o q hq _;exact World.cell?_alloc_old _ _ _ (by simpa using h.lab_ne hq)
  intro b o M;have:=h.fr.size;exact World.cell?_alloc_old _ _ _ (by simp;have:=M.1;omega)
 .rename_i c s0 n0;split at N
  .rename_i H a hr;split at N
   .rename_i Z;obtain⟨rfl,rfl⟩:=Z;simp only[Ac,A5]at N;obtain⟨rfl,rfl,rfl⟩:=N;obtain⟨c3,b8⟩:=h.roots c _ hr;obtain⟨hc,U⟩:=b8 [] _ rfl;have X:=(BQ hx).2;have hv:=q_ X;obtain⟨J,p,c2,_⟩:=X;by_cases E:a.length+m<=(pl c []).cap
    .cases l:(pl c []).nil with
     |true=>
      have c1:=p l;have hm:m=0:=by omega
      subst hm;have a0:a=[]:=M9.1 (by omega);subst a0;have a3:news=[]:=M9.1 (by simpa using Q);subst a3;have a5:xv=.slice (pl c []).raw 0 (pl c []).cap:=by rw[hv];simp[LJ,Pl.base,l]
      refine⟨_,_,_,_,by rw[a5];exact tm ht hu O hi w C a1,h.rename hr,D6 _ _ _, ?_,by simp,λ_ _ _ _ _=>rfl,λ_ _ _=>rfl⟩;rw[CU];exact⟨J,p,by simp,_,rfl,λ_=>by simp[l]⟩
     |false=>
      have a5:xv=.slice (some ⟨(pl c []).b,(pl c []).off,none⟩) a.length (pl c []).cap:=by rw[hv];simp[LJ,Pl.base,l]
      have a9:a.length*H+news.length<=(pl c []).cap*H:=by
       rw[Q,<-Fn];exact HQ _ E
      have W:∀j,j<news.length->(∃u,w.cell? ⟨(pl c []).b,(pl c []).off+a.length*i.size+j,none⟩=some u)/\w.frozen? ⟨(pl c []).b,(pl c []).off+a.length*i.size+j,none⟩=false:=by
       intro j T;obtain⟨_,e1,e2⟩:=U (a.length*H+j) (by rw[J];omega);rw[F,FQ];exact⟨e1,e2⟩
      have b9:=Hp.setSpares hr news w (a.length*H) h (AE _) a9;refine⟨_,_,_,_,by rw[a5];exact Zlv ht hu O hi w C a1 E h1 W,by rw[F];exact b9.rename hr,D6 _ _ _, ?_, ?_, ?_, ?_⟩
      .rw[CU];exact⟨J,p,by simpa using E,some ⟨(pl c []).b,(pl c []).off,none⟩,by simp,λ_=>by simp[l]⟩
      .intro k v hk;rw[CU,F,<-FQ];exact kg _ _ _ _ (λj T=>by have:=(W j T).1;rwa[F]at this) k v hk
      .intro b o q hq b7;refine cQ _ _ _ _ ?_;rintro ⟨rfl,h2,h3⟩;rw[F]at h2 h3;have:=U.lab hc (j:=o-(pl c []).off) (by simp only;omega);rw[show (pl c []).off+(o-(pl c []).off)=o by omega,hq]at this;simp only[Ac]at this;exact b7 c rfl this
      intro b o M;refine cQ _ _ _ _ ?_;rintro ⟨rfl,h2,h3⟩;rw[F]at h2 h3;have:=U.lab hc (j:=o-(pl c []).off) (by simp only;omega);rw[show (pl c []).off+(o-(pl c []).off)=o by omega]at this;rcases (h.lab _ _ _ this).2.1 with k|k
      .have:=M.1;omega
      exact M.2 k
    -- it grows
    obtain⟨d,R,b0,_⟩:∃d:List Value,d.length=a.length*H/\(∀j v,d[j]?= some v->w.cell? ⟨(pl c []).b,(pl c []).off+j,none⟩=some v)/\True:=by
     refine⟨(List.range (a.length*H)).map λj=>(w.cell? ⟨(pl c []).b,(pl c []).off+j,none⟩).getD undef,by simp, ?_,trivial⟩;intro j v T;simp only[CQ,BP]at T;obtain⟨j',s,rfl⟩:=T;have:=getElem?_lt s;simp only[Yl]at this;rw[PJ this]at s;simp only[Ac]at s;subst s;obtain⟨_,⟨v,hv⟩,_⟩:=U j (by rw[J];have:=HQ H hc.le;simp only at this;omega);rw[hv];rfl
    have b5:(Builtin.firstCells i.size a.length xv).run P w.drew=.ok d.toArray w.drew:=by
     rw[hv];cases l:(pl c []).nil with
     |true=>
      have:=p l;have a0:a=[]:=M9.1 (by omega);subst a0;have:d=[]:=M9.1 (by simpa using R);subst this;cases b1:(pl c []).raw<;>simp[LJ,Pl.base,l,b1,Builtin.firstCells,loadCells,loadCellsFrom]
     |false=>
      simp only[LJ,Pl.base,l,C6,BC];exact run_firstCells_some (P:=P) w.drew i.size a.length ⟨(pl c []).b,(pl c []).off,none⟩ a.length (pl c []).cap d (by rw[R,F]) (λj v T=>by rw[Addr.add_lit];exact b0 j v T)
    have b2:xv=.slice (pl c []).base a.length (pl c []).cap:=hv;have f:=tk (ty:=ty) ht hu O hi hz a7 w (A:=(pl c []).base) (n:=a.length) (cap:=(pl c []).cap) (olds:=d) C (by rw[<-b2];exact b5) a8 (by omega) I;have K:=grownCap_ge w (a.length+m) (pl c []).cap e;obtain⟨S,a2⟩:∃S,S=grownCap w (a.length+m) (pl c []).cap e:=⟨_,rfl⟩;rw[<-a2]at K f;have hG:=(h.drew).grow hr (d.toArray++news.toArray++Builtin.zeroCells z.cells (S-(a.length+m))) e S (by
     simp only[mX,d_,Builtin.zeroCells,mY,mZ,Q,R,b3];rw[<-Fn,<-Fn];congr 1;omega) (by omega) (λj v T a4=>by
      have s:j<d.length:=by rw[R];exact T
      have:=b0 j _ (BW s);rw[show w.drew.cell? _=w.cell? _ from rfl,this]at a4;simp only[Ac]at a4;subst a4;rw[Oh (by simp;omega),Oh (by simpa using s)];simp[s])
    refine⟨_,_,_,_,by rw[b2];exact f,hG,D6 _ _ _, ?_, ?_, ?_, ?_⟩
    .refine Xj (L:=λ_=>default) (B:=w.heap.size) ?_ K;rw[CU,Af rfl];rfl
    .intro k v hk;rw[CU,Af rfl];simp only[A7];have b6:=getElem?_lt hk;rw[World.cell?_alloc_new];rw[Oh (by simp;omega),Array.getElem?_append_right (by simp;omega)];simpa[R] using hk
    .intro b o q hq _;exact World.cell?_alloc_old _ _ _ (by simpa using h.lab_ne hq)
    intro b o M;have:=h.fr.size;exact World.cell?_alloc_old _ _ _ (by simp;have:=M.1;omega)
   simp at N
  simp at N
 simp at N
end Go.Vs
namespace Go.Vs
variable [Glb]
variable {P:Program} {N:Nat} {w0:World} {own0:Nat->Nat->Prop} {pl0:Aw} {g:Bp} {pl:Aw} {S:St} {a:Act} {w:World} {K:V->List (Nat×Ao)->List (Nat×Root)->Nat->Prop}
def Zp2{s:List (Nat×Root)}{V U E:Nat}(h:Hp w0 own0 pl0 g pl s V U E w){p:Nat}{o:Ao}{f:Nat}{l:List (List D)}(T:EA s p o=some (f,l)){j m:Nat}(R:j+m<=l.length):
  ∃n:List Value,n.length=m*f/\(∀v∈n,v.oneCell'=true)/\(∀k v,n[k]?= some v->w.cell? ⟨(pl p o).b,(pl p o).off+(j*f+k),none⟩=some v) /\
   (∀i e c d,((l.drop j).take m)[i]?= some e->e[c]?= some d->∃v,n[i*f+c]?= some v/\DV (pl p (o++[(j+i,c)])) d v) /\
   (∀i c v,i<m->c<f->w.cell? ⟨(pl p o).b,(pl p o).off+((j+i)*f+c),none⟩=some v->n[i*f+c]?= some v):=by
 obtain⟨_,C⟩:=h.node T;have H:∀k,k<m*f->∃v,w.cell? ⟨(pl p o).b,(pl p o).off+(j*f+k),none⟩=some v/\v.oneCell'=true:=by
  intro k r;have J:0<f:=by
   rcases Yj f with F|F
   .subst F;simp at r
   exact F
  have L:k / f<m:=U6 (by rw[Je];exact r);have y:k%f<f:=KG _ J;have Q:k / f*f+k%f=k:=by rw[Je];exact U7 _ _
  have z:=BW (show j+k / f<l.length by omega);have G:=C.szs _ (CP z);have hd:=BW (show k%f<(l[j+k / f]).length by simp only at G;omega);obtain⟨v,q,x⟩:=C.cells _ _ _ _ z hd;refine⟨v, ?_,x.one⟩;rw[show (j+k / f)*f+k%f=j*f+k by rw[Fn];omega]at q;exact q
 have u:∀k v,((List.range (m*f)).map λk=>(w.cell? ⟨(pl p o).b,(pl p o).off+(j*f+k),none⟩).getD undef)[k]?= some v->w.cell? ⟨(pl p o).b,(pl p o).off+(j*f+k),none⟩=some v/\v.oneCell'=true:=by
  intro k v r;simp only[CQ,BP]at r;obtain⟨W,t,rfl⟩:=r;have:=getElem?_lt t;simp only[Yl]at this;rw[PJ this]at t;simp only[Ac]at t;subst t;obtain⟨v,q,M⟩:=H k this;rw[q];exact⟨rfl,M⟩
 have B:∀k v,k<m*f->w.cell? ⟨(pl p o).b,(pl p o).off+(j*f+k),none⟩=some v->((List.range (m*f)).map λk=>(w.cell? ⟨(pl p o).b,(pl p o).off+(j*f+k),none⟩).getD undef)[k]?= some v:=by
  intro k v r q;simp only[CQ,PJ r,Dg,q,Eg]
 refine⟨_,by simp,λv q=>?_,λk v r=>(u k v r).1,λi e c d z hd=>?_,λi c v L y q=>?_⟩
 .obtain⟨k,r⟩:=Kd q;exact (u k v r).2
 .have I:=getElem?_lt z;simp only[EF,Di]at I;have A:=LH rfl _ _ z;obtain⟨v,q,x⟩:=C.cells _ e c d A hd;have O:=C.bound A hd;refine⟨v,B _ _ (Q5 (show i<m by omega) (AE _) O.2.1) ?_,x⟩;rw[show j*f+(i*f+c)=(j+i)*f+c by rw[Fn];omega];exact q
 refine B _ _ (Q5 L (AE _) y) ?_;rw[show j*f+(i*f+c)=(j+i)*f+c by rw[Fn];omega];exact q
def qF{size:Nat}{L:Pl}{p m:Nat}{v:Value}(x:Gc L size p m v){c:List Value}(f:c.length=m*size)(o:0<size)(r:∀k u,c[k]?= some u->w.cell? ⟨L.b,L.off+(p*size+k),none⟩=some u):
  (Builtin.firstCells size m v).run P w=.ok c.toArray w:=by
 obtain⟨l,d,t,A,rfl,n⟩:=x;cases A with
 |none=>
  have i:m=0:=by
   by_cases q:m=0
   .exact q
   exfalso;have:=n (.inl (by omega));cases h:L.nil with
   |true=>have:=d h;omega
   |false=>rw[h]at this;simp at this
  subst i;have:c=[]:=M9.1 (by simpa using f);subst this;simp[Builtin.firstCells]
 |some A=>
  by_cases i:m=0
  .subst i;have:c=[]:=M9.1 (by simpa using f);subst this;simp[Builtin.firstCells,loadCells,loadCellsFrom]
  have e:=n (.inl (by omega));cases h:L.nil with
  |true=>have:=d h;omega
  |false=>
   rw[h]at e;simp only[C6,BC,Ac]at e;exact run_firstCells_some (P:=P) w size m A m _ c f (λj u s=>by rw[e,Addr.add_lit,l,FQ];exact r j u s)
def Zjy{L:Pl}{e d m:Nat}{v:Value}(c:Gc L e d m v)(b:World):(Builtin.lenOf v).run P b=.ok m b:=by
 obtain⟨_,_,_,A,rfl,_⟩:=c;simp[Builtin.lenOf]
def Zqa(hR:Rel N w0 own0 pl0 g pl S a w){args:Array Operand}{tys:Array TypeId}{ty:TypeId}{j:W}(ht:E1 P (.call { callee:=.builtin .append,args,argTypes:=tys })=some j)(h:wr S K j):
  MO P w0 own0 pl0 pl S K (Builtin.append_ tys ty (args.map a.eval)) w:=by
 simp only[E1]at ht;split at ht
 .rename_i x y t u hxs hts;have hargs:args=#[x,y]:=by apply Array.ext';simpa using hxs
  have htys:tys=#[t,u]:=by apply Array.ext';simpa using hts
  subst hargs;subst htys;rw[show (#[x,y]:Array Operand).map a.eval=#[a.eval x,a.eval y] by simp];have hfix:=hR.hp.fixle;split at ht
  .rename_i e e2 hu hu2;simp only[Bv,AO]at ht;obtain⟨i,hi,z,hz,zc,hzc,ht⟩:=ht;split at ht
   .rename_i hcond;obtain⟨hzl,hpos,hby⟩:=hcond;simp only[AO,Ac]at ht;obtain⟨x',hx,y',hy,rfl⟩:=ht;have hzall:=Ow (pl:=pl) (nx:=S.next) hzc;have hzs:z.cells.size=i.size:=by rw[<-Hh,<-hzall.length,hzl]
    have h1:=Cc hR hx;have h2:=Cc hR hy;simp only[wr]at h;obtain⟨⟨sz,es,r⟩,hb,hbs,h⟩:=h;simp only at hbs;subst hbs;simp only at h;split at h
    .-- nothing is Zg
     rename_i s0 he;rw[he]at h2;obtain⟨hbd,h⟩:=h;have hyv:a.eval y=.slice none 0 0:=h2;have happ:=(Zg hR.hp h1 hb hu hu2 (by simp) hi hz rfl hzs hby (ty:=ty) (y:=a.eval y) (m:=0) (news:=[]) (by intro w';rw[hyv];simp[Builtin.lenOf]) (by rw[hyv];simp[Builtin.firstCells]) (by rw[hyv];simp[Builtin.firstCells]) (by simp) (by simp) (by simpa using hbd)).out;obtain⟨v,w1,g1,pl1,hrun,hp,hag,hwin,_⟩:=happ;exact NQ h hrun ⟨by omega,by simpa using hwin⟩ hp.bump (λz u hk=>(hk.agree hag).mono (by omega))
    .rename_i ry py sz' lo m he;rw[he]at h2;obtain⟨hryn,hwiny⟩:=BQ h2;obtain⟨rfl,hne,hbound,l,hl,hlm,hK⟩:=h;rw[OW]at hl;obtain⟨news,hnl,hone,hnc,hnE,hnN⟩:=Zp2 hR.hp hl hlm;have happ:=(Zg hR.hp h1 hb hu hu2 (by simp) hi hz rfl hzs hby (ty:=ty) (y:=a.eval y) (m:=m) (news:=news) (Zjy hwiny) (qF hwiny hnl hpos hnc) (qF hwiny hnl hpos hnc) hnl hone hbound).out;obtain⟨v,w1,g1,pl1,hrun,hp,hag,hwin,hnew,hkeep,hst⟩:=happ;have hEl:((l.drop lo).take m).length=m:=by simp;omega
     obtain⟨_,hcy⟩:=hR.hp.node hl;rcases hK with ⟨hlf,hK⟩|⟨sz0,es0,hry,hK⟩
     .have hx:=hp.extendZ (r:=S.next) (sz:=i.size) (es:=es) (by simp[get]) hfix (AE _) ((l.drop lo).take m) (λe he=>hcy.szs e (Gm (G4 he))) (by rw[hEl];exact (by have:=hwin.2.2.1;omega)) (by
       intro i' e' c' d he' hd;obtain⟨v,hv,hdv⟩:=hnE i' e' c' d he' hd;have hlf':=DE.1 (DE.1 hlf e' (CP he')) d (CP hd);cases d with
       |lf x=>
        obtain⟨rfl,h1'⟩:=hdv;refine⟨v, ?_,.inl ⟨rfl,h1'⟩⟩;rw[show (es.length+i')*i.size+c'=es.length*i.size+(i'*i.size+c') by rw[Fn];omega];exact hnew _ _ hv
       |sl s es'=>simp[VP]at hlf'
       |hole=>simp[VP]at hlf')
      have hag2:FO S.next pl (GE pl1 S.next ((l.drop lo).take m) es.length):=λr p hr=>by rw[Wo (AE _) r p hr];exact hag r p hr
      refine NQ hK hrun ⟨by omega, ?_⟩ (hx.bump.roots_eq ?_) (λz u hk=>(hk.agree hag2).mono (by omega))
      .rw[Wp];exact hwin
      intro t';rw[Bn];simp only[get];split
      .rfl
      rfl
     have hry':get (Fh S.roots r) ry=some (.tr sz0 es0):=by
      cases r with
      |none=>exact hry
      |some r=>simp only[Fh];rw[Ii,Ae (by intro e;exact hne (by rw[e]))];exact hry
     have hpy:AH sz0 es0 py=some (i.size,l):=by unfold EA at hl;rw[hry]at hl;exact hl
     have hmy:=((hR.hp.roots ry _ hry).2 py _ hpy).2;have hx:=hp.extendMove (R:=S.next) (sz:=i.size) (es:=es) (by simp[get]) hfix (AE _) (ry:=ry) (by omega) (py:=py) (sz0:=sz0) (es0:=es0) (by simp only[get];rw[Ae (by omega)];exact hry') hpy hlm (by have:=hwin.2.2.1;omega) (by
      intro i' c' v hi' hc' hv;rw[hag ry py hryn]at hv;have hbd:(lo+i')*i.size+c'<(pl ry py).cap*i.size:=Q5 (show lo+i'<l.length by omega) hcy.le hc';rw[hkeep _ _ _ (hmy.lab hcy hbd) (by rintro q hq e;rw[A5]at e;exact hne (by rw[hq,e.1]))]at hv;rw[show (es.length+i')*i.size+c'=es.length*i.size+(i'*i.size+c') by rw[Fn];omega];exact hnew _ _ (hnN i' c' v hi' hc' hv))
     have hag2:FO S.next pl (IT pl1 ry py lo S.next es.length):=λr p hr=>by
      unfold IT;rw[Ae (by omega)];exact hag r p hr
     refine NQ hK hrun ⟨by omega, ?_⟩ (hx.bump.roots_eq ?_) (λz u hk=>(hk.agree hag2).mono (by omega))
     .have:IT pl1 ry py lo S.next es.length S.next []=pl1 S.next []:=by unfold IT;simp
      rw[this];exact hwin
     intro t';rw[Bn,Bn];simp only[get];split
     .rfl
     rw[Bn]
    exact h.elim
   simp at ht
  .rename_i e hu hu2;simp only[Bv,AO]at ht;obtain⟨i,hi,z,hz,zc,hzc,ht⟩:=ht;split at ht
   .rename_i hcond;obtain⟨hzl,hsz1,hby⟩:=hcond;simp only[AO,Ac]at ht;obtain⟨x',hx,y',hy,rfl⟩:=ht;have hzall:=Ow (pl:=pl) (nx:=S.next) hzc;have hzs:z.cells.size=1:=by rw[<-Hh,<-hzall.length,hzl]
    have h1:=Cc hR hx;have h2:=Cc hR hy;simp only[wr]at h;obtain⟨⟨sz,es,r⟩,hb,hbs,h⟩:=h;simp only at hbs;subst hbs;simp only at h;split at h
    .rename_i str he;rw[he]at h2;obtain⟨hyv,_⟩:=BQ h2;obtain⟨hbound,hK⟩:=h;have hfc:∀w',(Builtin.firstCells i.size str.size (a.eval y)).run P w'=.ok (str.data.toList.map λb=>Value.int .u8 b.toNat).toArray w':=by
      intro w';rw[hyv];simp only[Builtin.firstCells,Sem.run_pure];congr 1;apply Array.ext';simp
     have happ:=(Zg hR.hp h1 hb hu hu2 (by simp) hi hz hsz1 hzs (by omega) (ty:=ty) (y:=a.eval y) (m:=str.size) (news:=str.data.toList.map λb=>Value.int .u8 b.toNat) (by intro w';rw[hyv];simp[Builtin.lenOf]) (hfc w) (hfc w.drew) (by simp) (by
      intro v hv;simp only[CC]at hv;obtain⟨b,_,rfl⟩:=hv;rfl) (by rw[hby,Og];exact hbound)).out
     obtain⟨v,w1,g1,pl1,hrun,hp,hag,hwin,hnew,hkeep,hst⟩:=happ;have hx:=hp.extendZ (r:=S.next) (sz:=1) (es:=es) (by simp[get]) hfix (AE _) (Jz str) (λe he=>by
      simp only[Jz,CC]at he;obtain⟨b,_,rfl⟩:=he;rfl) (by rw[lI];exact (by have:=hwin.2.2.1;omega)) (by
      intro i' e' c' d he' hd;obtain⟨b,hb,rfl,rfl⟩:=vN he' hd;refine⟨.int .u8 b.toNat, ?_,.inl ⟨rfl,rfl⟩⟩;have:=hnew i' (.int .u8 b.toNat) (by simp[hb]);simpa using this)
     have hag2:FO S.next pl (GE pl1 S.next (Jz str) es.length):=λr p hr=>by rw[Wo (AE _) r p hr];exact hag r p hr
     refine NQ hK hrun ⟨by omega, ?_⟩ (hx.bump.roots_eq ?_) (λz u hk=>(hk.agree hag2).mono (by omega))
     .rw[Wp];exact hwin
     intro t';rw[Bn];simp only[get];split
     .rfl
     rfl
    exact h.elim
   simp at ht
  simp at ht
 simp at ht
def Zkk{d:Nat}{b:List (List D)}{k:Nat}{q:Ao}{m:Nat×List (List D)}(h:AH d (b.take k) q=some m):(q=[]/\m=(d,b.take k))\/AH d b q=some m:=by
 cases q with
 |nil=>simp only[AH,Ac]at h;exact .inl ⟨rfl,h.symm⟩
 |cons a q=>
  obtain⟨i,c⟩:=a;right;unfold AH at h ⊢;rw[EM]at h;by_cases e:i<k
  .rw[Af e]at h;exact h
  rw[Ae e]at h;simp at h
def Hp.shrink{b:List (Nat×Root)}{v u j:Nat}(h:Hp w0 own0 pl0 g pl b v u j w){r y:Nat}{t:List (List D)}(A:get b r=some (.tr y t))(k:Nat):
  Hp w0 own0 pl0 g pl (put b r (.tr y (t.take k))) v u j w:=by
 refine⟨h.fr,h.lab,h.fixed,h.fixle,h.ncle, ?_⟩;intro B x o;rw[Bn]at o;split at o
 .rename_i e;subst e;simp only[Ac]at o;subst o;obtain⟨s,n⟩:=h.roots r _ A;refine⟨s, ?_⟩;intro q m p;rcases Zkk p with ⟨rfl,rfl⟩|p
  .obtain⟨l,z⟩:=n [] _ rfl;refine⟨⟨l.szp,CW (by simp;omega) l.le,l.nil,λe f=>l.szs e (G4 f),λi e c d f hd=>?_⟩,z⟩;rw[EM]at f;split at f
   .exact l.cells i e c d f hd
   simp at f
  exact n q m p
 exact h.roots B x o
def Hp.extendH{f:List (Nat×Root)}{G F n:Nat}(h:Hp w0 own0 pl0 g pl f G F n w){r sz:Nat}{es:List (List D)}(J:get f r=some (.tr sz es))(N:List (List D))(A:∀e∈N,e.length=sz)(y:es.length+N.length<=(pl r []).cap)
  (C:∀(i:Nat) (e:List D) (c:Nat) (d:D),N[i]?= some e->e[c]?= some d->∃v,w.cell? ⟨(pl r []).b,(pl r []).off+((es.length+i)*sz+c),none⟩=some v/\v.oneCell'=true/\(d=.lf v\/d=.hole)):
  Hp w0 own0 pl0 g pl (put f r (.tr sz (es++N))) G F n w:=by
 refine⟨h.fr,h.lab,h.fixed,h.fixle,h.ncle, ?_⟩;intro L x p;rw[Bn]at p;split at p
 .rename_i e;subst e;simp only[Ac]at p;subst p;obtain⟨z,o⟩:=h.roots r _ J;refine⟨z, ?_⟩;intro q m k;cases q with
  |nil=>
   simp only[AH,Ac]at k;subst k;obtain⟨s,I⟩:=o [] _ rfl;refine⟨⟨s.szp,by simpa using y,s.nil, ?_, ?_⟩,I⟩
   .intro e j;simp only[C7]at j;rcases j with j|j
    .exact s.szs e j
    exact A e j
   intro i e c d j hd;by_cases u:i<es.length
   .rw[E3 u]at j;exact s.cells i e c d j hd
   rw[Dh (by omega)]at j;obtain⟨v,B,t,l⟩:=C _ e c d j hd;rw[show es.length+(i-es.length)=i by omega]at B;refine⟨v,B, ?_⟩;rcases l with rfl|rfl
   .exact⟨rfl,t⟩
   exact t
  |cons a q=>
   obtain⟨i,c⟩:=a;unfold AH at k;by_cases u:i<es.length
   .rw[E3 u]at k;exact o ((i,c)::q) m (by unfold AH;exact k)
   rw[Dh (by omega)]at k;split at k
   .rename_i M H E;simp only[AO]at E;obtain⟨e,j,hd⟩:=E;obtain⟨v,B,t,l⟩:=C _ e c _ j hd;rcases l with l|l<;>cases l
   simp at k
 exact h.roots L x p
def xD{pl:Aw}{k:Nat}:∀{b:List C}{j:List Value},Ai (CR pl k) b j->∀(c:Nat) (d:D) (v:Value),(b.map dL)[c]?= some d->j[c]?= some v->v.oneCell'=true/\(d=.lf v\/d=.hole)
 |[],[],_,c,d,v,h,_=>by simp at h
 |x::b,u::j,h,0,d,v,f,i=>by
  simp only[A2,AD,Ac]at f i;subst f i;refine⟨CR.one h.1, ?_⟩;cases x with
  |lf y=>obtain⟨e,_⟩:=h.1;subst e;exact .inl rfl
  |_=>exact .inr rfl
 |x::b,u::j,h,c+1,d,v,f,i=>xD h.2 c d v (by simpa using f) (by simpa using i)
 |[],_::_,h,_,_,_,_,_=>h.elim
 |_::_,[],h,_,_,_,_,_=>h.elim
def Zqc(hR:Rel N w0 own0 pl0 g pl S a w){args:Array Operand}{tys:Array TypeId}{ty:TypeId}{j:W}(ht:E1 P (.call { callee:=.builtin .clear,args,argTypes:=tys })=some j)(h:wr S K j):
  MO P w0 own0 pl0 pl S K (Builtin.clear_ tys ty (args.map a.eval)) w:=by
 simp only[E1]at ht;split at ht
 .rename_i x t hxs hts;have hargs:args=#[x]:=by apply Array.ext';simpa using hxs
  have htys:tys=#[t]:=by apply Array.ext';simpa using hts
  subst hargs;subst htys;rw[show (#[x]:Array Operand).map a.eval=#[a.eval x] by simp];split at ht
  .rename_i e hu;simp only[Bv,AO]at ht;obtain⟨i,hi,z,hz,zc,hzc,ht⟩:=ht;split at ht
   .rename_i hcond;obtain⟨hzl,hpos⟩:=hcond;simp only[AO,Ac]at ht;obtain⟨x',hx,rfl⟩:=ht;have hall:=Ow (pl:=pl) (nx:=S.next) hzc;have hzs:z.cells.size=i.size:=by rw[<-Hh,<-hall.length,hzl]
    have h1:=Cc hR hx;simp only[wr]at h;split at h
    .rename_i r sz' lo n he;rw[he]at h1;obtain⟨hrn,hsz,hnil,hle,A,hv,hA⟩:=BQ h1;obtain⟨rfl,es,hr,hln,hK⟩:=h;have hsh:=hR.hp.shrink hr lo;by_cases hn:n=0
     .subst hn;have hK0:K .un [] (put S.roots r (.tr i.size (es.take lo))) S.next:=by simpa using hK
      refine⟨.tuple #[],w,.un,[],_,_,_,_, ?_,trivial,hsh,λ_ _ h=>h,hK0⟩;rw[hv];cases A<;>simp[Builtin.clear_,run_underlying hu]
     obtain⟨_,hok⟩:=hR.hp.roots r _ hr;obtain⟨hc,hm⟩:=hok [] _ rfl;have hle':=hc.le;have hA':=hA (.inl (by simp only at hle';omega));have hq:(pl r []).nil=false:=by
      cases hq:(pl r []).nil with
      |true=>have:=hnil hq;omega
      |false=>rfl
     rw[hq]at hA';simp only[C6,BC]at hA';subst hA';have hzn:(Builtin.zeroCells z.cells n).size=n*i.size:=by simp[Builtin.zeroCells,hzs]
     have hlen:(Builtin.zeroCells z.cells n).toList.length=n*i.size:=by rw[Hh,hzn]
     have hone:∀v∈(Builtin.zeroCells z.cells n).toList,v.oneCell'=true:=by
      intro v hv;simp only[Builtin.zeroCells,m5,CC]at hv;obtain⟨k,_,rfl⟩:=hv;have hk:k%z.cells.size<z.cells.size:=KG _ (by rw[hzs];exact hpos);rw[getElem!_pos z.cells _ hk];exact YZ hall _ (by simp)
     have hbound:(lo+n)*i.size<=(pl r []).cap*i.size:=HQ _ (by simp only at hle';omega);have hex:∀j,j<(Builtin.zeroCells z.cells n).toList.length->∃u,w.cell? ⟨(pl r []).b,(pl r []).off+lo*(pl r []).sz+(0+j),none⟩=some u/\w.frozen? ⟨(pl r []).b,(pl r []).off+lo*(pl r []).sz+(0+j),none⟩=false:=by
      intro j hj;rw[hlen]at hj;obtain⟨_,k1,k2⟩:=hm (lo*i.size+j) (by rw[hsz];rw[Fn]at hbound;omega);rw[hsz];simp only[A7,FQ]at k1 k2 ⊢;obtain⟨u,hu⟩:=k1;exact⟨u,hu,k2⟩
     have hst:=bm (P:=P) (pl r []).b (Builtin.zeroCells z.cells n).toList w ((pl r []).off+lo*(pl r []).sz) 0 hone (by simpa using hex);have hsp:=Hp.setSpares (roots:=put S.roots r (.tr i.size (es.take lo))) (r:=r) (sz:=i.size) (es:=es.take lo) (by rw[Bn,Af rfl]) (Builtin.zeroCells z.cells n).toList w (lo*i.size) hsh (by simp;exact HQ _ (by omega)) (by rw[hlen,<-Fn];exact hbound);have hlo:(es.take lo).length=lo:=by simp;omega
     have hxx:=hsp.extendH (r:=r) (sz:=i.size) (es:=es.take lo) (by rw[Bn,Af rfl]) (List.replicate n (zc.map dL)) (by
      intro e he;rw[dZ he,B3,hzl]) (by rw[hlo,da];simp only at hle';omega) (by
      intro i' e c d he hd;rw[mV]at he;split at he
      .rename_i hin;simp only[Ac]at he;subst he;have hcl:c<i.size:=by
        have:=(CY.1 hd).1;simp only[B3,hzl]at this;exact this
       have hidx:i'*i.size+c<n*i.size:=by
        have:=HQ i.size (show i'+1<=n by omega);rw[Fn]at this;omega
       have hmod:(i'*i.size+c)%i.size=c:=by rw[Je,mW,KH hcl]
       have hzv:(Builtin.zeroCells z.cells n).toList[i'*i.size+c]?= z.cells.toList[c]?:=by
        have hc2:c<z.cells.size:=by rw[hzs];exact hcl
        simp only[Builtin.zeroCells,hzs,m5,CQ,Array.toList_range];rw[PJ (by rw[Je]at hidx;first|exact hidx|(rw[Je];exact hidx))];simp only[Dg,hmod];rw[getElem!_pos z.cells c hc2,Yk,MD hc2]
       obtain⟨v,hv'⟩:∃v,z.cells.toList[c]?= some v:=by
        have hc2:c<z.cells.toList.length:=by rw[Hh,hzs];exact hcl
        exact⟨_,BW hc2⟩
       have hin2:=kg (pl r []).b (Builtin.zeroCells z.cells n).toList w ((pl r []).off+lo*i.size) (by
        intro j hj;obtain⟨u,hu,_⟩:=hex j hj;rw[A7,hsz]at hu;exact⟨u,hu⟩) (i'*i.size+c) v (by rw[hzv];exact hv')
       obtain⟨o1,o2⟩:=xD hall c d v hd hv';refine⟨v, ?_,o1,o2⟩;rw[hlo,show (pl r []).off+((lo+i')*i.size+c)=(pl r []).off+lo*i.size+(i'*i.size+c) by rw[Fn];omega];exact hin2
      .simp at he)
     refine⟨.tuple #[],_,.un,[],_,_,_,_, ?_,trivial,hxx.roots_eq ?_,λ_ _ h=>h,hK⟩
     rotate_left
     .intro t';rw[Bn,Bn];split
      .rfl
      rw[Bn];split
      .rename_i h1 h2;exact H4 h2 h1
      rfl
     rw[hv];have hn0:n≠0:=hn;simp only[hsz,AL]at hst;cases n with
     |zero=>exact H4 rfl hn0
     |succ n=>simp[Builtin.clear_,run_underlying hu,zeroValue,typeInfo,hi,hz,hst,hsz]
    .rename_i s0 he;rw[he]at h1;have hxv:a.eval x=.slice none 0 0:=h1;refine⟨.tuple #[],w,.un,[],_,_,_,_, ?_,trivial,hR.hp,λ_ _ h=>h,h⟩;rw[hxv];simp[Builtin.clear_,run_underlying hu]
    exact h.elim
   simp at ht
  simp at ht
 simp at ht
end Go.Vs
namespace Go.Vs
variable [Glb]
inductive Arg where
 |val (ag:Bool) (cs:List (M×D))
 |ptr (cs:List (M×D))
 deriving Inhabited
def Arg.cells:Arg->List (M×D)
 |.val _ l=>l
 |.ptr l=>l
def flat(a:List Arg):List (M×D):=a.flatMap Arg.cells
structure Out where
 res:List (Bool×List D)
 io:List (Nat×List (List D))
 bx:List (List D)
 deriving Inhabited
abbrev Kk:=Nat×Nat
def BY(m:M)(d:D)(k:Kk):C×List (Nat×Root)×Kk:=
 match d with
 |.lf v=>(.lf v,[],k)
 |.hole=>(.un,[],k)
 |.sl b a=>match m with
  |.io=>(.rf k.1 [] b 0 a.length,[(k.1,.tr b a)],(k.1+1,k.2))
  |.ow=>(.rf k.2 [] b 0 a.length,[(k.2,.tr b a)],(k.1,k.2+1))
  |.rd=>(.rf k.2 [] b 0 a.length,[(k.2,.im b a)],(k.1,k.2+1))
  |.rx=>(.rf k.1 [] b 0 a.length,[(k.1,.im b a)],(k.1+1,k.2))
def Bh:List (M×D)->Kk->List C×List (Nat×Root)×Kk
 |[],k=>([],[],k)
 |(m,d)::l,k=>((BY m d k).1::(Bh l (BY m d k).2.2).1,(BY m d k).2.1++(Bh l (BY m d k).2.2).2.1,(Bh l (BY m d k).2.2).2.2)
def LF:M×D->Nat
 |(.io,.sl _ _)=>1
 |(.rx,.sl _ _)=>1
 |_=>0
def DL:List (M×D)->Nat
 |[]=>0
 |x::l=>LF x+DL l
def Ir:List Arg->Nat
 |[]=>0
 |.ptr _::l=>Ir l+1
 |_::l=>Ir l
def C3(a:List Arg):Nat:=DL (flat a)+Ir a
def EJ:List Arg->List C->Nat->List V
 |[],_,_=>[]
 |.val false l::r,d,b=>(match d.take l.length with|[c]=>.a (.c c)|_=>.un)::EJ r (d.drop l.length) b
 |.val true l::r,d,b=>.a (.ag (d.take l.length))::EJ r (d.drop l.length) b
 |.ptr l::r,d,b=>.a (.c (.pb b 0))::EJ r (d.drop l.length) (b+1)
def Ds:List Arg->List C->List (List (M×D)×List C)
 |[],_=>[]
 |.val _ l::r,a=>Ds r (a.drop l.length)
 |.ptr l::r,a=>(l,a.take l.length)::Ds r (a.drop l.length)
def Iw:List (List (M×D)×List C)->Nat->List (Nat×Root)
 |[],_=>[]
 |x::l,b=>(b,.bx x.2)::Iw l (b+1)
def CA(a:List Arg):List C×List (Nat×Root)×Kk:=Bh (flat a) (0,C3 a)
def BX(a:List Arg):List V×List (Nat×Root)×Nat:=
 (EJ a (CA a).1 (DL (flat a)),(CA a).2.1++Iw (Ds a (CA a).1) (DL (flat a)),(CA a).2.2.2)
def Il:List (M×D)->Nat->List (Nat×Nat×Nat)
 |[],_=>[]
 |(.io,.sl b a)::l,k=>(k,b,a.length)::Il l (k+1)
 |(.rx,.sl _ _)::l,k=>Il l (k+1)
 |_::l,k=>Il l k
def DX:A->Bool×List C
 |.c x=>(false,[x])
 |.ag a=>(true,a)
def Kh:V->Option (List A)
 |.a x=>some [x]
 |.tp [_]=>none
 |.tp b=>some b
 |_=>none
def EK:M×D->Bool
 |(.rx,.sl _ _)=>true
 |_=>false
def EZ{α:Type}:List (M×D)->List α->List α
 |x::l,c::a=>if EK x then EZ l a else c::EZ l a
 |_,_=>[]
def IV:List (M×D)->List C->List C->Prop
 |x::l,c::a,y::b=>(EK x=true->y=c)/\IV l a b
 |[],[],[]=>True
 |_,_,_=>False
def HS(d:List Arg)(a:Out)(b:List (Nat×Root))(f:V):Prop:=
 ∃g,Kh f=some g/\g.map (λx=>((DX x).1,(DX x).2.length))=a.res.map (λx=>(x.1,x.2.length)) /\
 ∃c:List (List C),Ai (λx e=>IV x.1 x.2 e) (Ds d (CA d).1) c/\(∀(j:Nat) (e:List C),c[j]?= some e->get b (DL (flat d)+j)=some (.bx e)) /\
 ∃h,Dd b ((g.flatMap λx=>(DX x).2)++(((Ds d (CA d).1).zip c).flatMap λx=>EZ x.1.1 x.2))=some ((a.res.flatMap (·.2))++a.bx.flatten,h) /\
  ((Ds d (CA d).1).zip c).map (λx=>(EZ x.1.1 x.2).length)=a.bx.map (·.length) /\
  Ai (λ(x:Nat×Nat×Nat) (o:Nat×List (List D))=>get h x.1=some (.tr o.1 o.2)/\o.1=x.2.1/\o.2.length=x.2.2) (Il (flat d) 0) a.io
def Gp(P:Program)(f:FuncId)(b:List Arg)(i:Out):Prop:=
 ∀(w:World) (own:Nat->Nat->Prop) (g:Bp) (pl:Aw) (j:List Value),
  Hp w own pl g pl (BX b).2.1 (BX b).2.2 (BX b).2.2 (C3 b) w ->
  Ai (VR pl (BX b).2.2) (BX b).1 j ->
  Calls P f j.toArray w λe l=>∃rv k c a h d,e=.returned rv/\Hp w own pl k c a h h (C3 b) l/\VR c h d rv/\HS b i a d
def K7:List C->List (M×D)->Option (List (M×C×D))
 |[],[]=>some []
 |c::a,(m,d)::l=>(K7 a l).map ((m,c,d)::·)
 |_,_=>none
def OA(b:List (Nat×Root)):V->Arg->Option (List (M×C×D))
 |.a (.c x),.val false l=>K7 [x] l
 |.a (.ag d),.val true l=>K7 d l
 |.a (.c (.pb r c)),.ptr l=>match get b r with
  |some (.bx d)=>if c+l.length<=d.length then K7 ((d.drop c).take l.length) l else none
  |_=>none
 |_,_=>none
def Ig(c:List (Nat×Root)):List V->List Arg->Option (List (M×C×D))
 |[],[]=>some []
 |v::e,x::d=>match OA c v x,Ig c e d with
  |some a,some b=>some (a++b)
  |_,_=>none
 |_,_=>none
def JF:M×C×D->Bool
 |(.ow,_,_)=>true
 |_=>false
def BD:List (M×C×D)->List Nat
 |[]=>[]
 |(.io,.rf r _ _ _ _,.sl _ _)::l=>r::BD l
 |_::l=>BD l
def B7:List V->List Arg->List (Nat×Nat×Nat)
 |.a (.c (.pb r c))::d,.ptr l::b=>(r,c,l.length)::B7 d b
 |_::d,_::b=>B7 d b
 |_,_=>[]
def WI(a:List (Nat×Root))(f:List Nat):M×C×D->Prop
 |(.ow,_,_)=>True
 |(_,c,.lf v)=>c=.lf v
 |(_,_,.hole)=>True
 |(m,.nl s,.sl b d)=>s=b/\d=[]
 |(.io,.rf r p s g n,.sl b d)=>s=b/\g=0/\n=d.length/\∃h e,get a r=some (.tr h e)/\AH h e p=some (b,d)
 |(_,.rf r p s g n,.sl b d)=>s=b/\(g=0\/0<n)/\r ∉ f/\∃l,EA a r p=some (b,l)/\g+n<=l.length/\d=(l.drop g).take n
 |_=>False
def CG:List (Nat×Root)->List (M×C×D)->List (Nat×List (List D))->Option (List (Nat×Root))
 |a,[],[]=>some a
 |a,(.io,.rf r p _ _ _,.sl _ _)::l,(_,d)::o=>match get a r with
  |some (.tr c b)=>CG (put a r (.tr c (EL b p λ_=>d))) l o
  |_=>none
 |a,(.io,.nl _,.sl _ _)::l,_::o=>CG a l o
 |_,(.io,_,.sl _ _)::_,_=>none
 |a,_::l,o=>CG a l o
 |_,_,_=>none
def AU:List D->Nat->List C×List (Nat×Root)×Nat
 |[],n=>([],[],n)
 |.lf v::l,n=>(.lf v::(AU l n).1,(AU l n).2)
 |.hole::l,n=>(.un::(AU l n).1,(AU l n).2)
 |.sl b a::l,n=>(.rf n [] b 0 a.length::(AU l (n+1)).1,(n,.tr b a)::(AU l (n+1)).2.1,(AU l (n+1)).2.2)
def Js(ag:Bool)(a:List C):A:=if ag then .ag a else match a with|[c]=>.c c|_=>.ag []
def FU:List (Bool×List D)->List C->List A
 |[],_=>[]
 |(ag,b)::l,a=>Js ag (a.take b.length)::FU l (a.drop b.length)
def G9:List (M×D)->List C->List C->List C
 |x::l,c::b,a=>if EK x then c::G9 l b a else match a with
  |y::a=>y::G9 l b a
  |[]=>c::G9 l b []
 |_,_,_=>[]
def HW:List (Nat×Root)->List V->List Arg->List (List D)->List C->Option (List (Nat×Root))
 |b,.a (.c (.pb r c))::g,.ptr l::e,h::o,d=>match get b r with
  |some (.bx f)=>HW (put b r (.bx (f.take c++(G9 l ((f.drop c).take l.length) (d.take h.length)++f.drop (c+l.length))))) g e o (d.drop h.length)
  |_=>none
 |_,_::_,.ptr _::_,_,_=>none
 |b,_::g,_::e,o,d=>HW b g e o d
 |b,_,_,_,_=>some b
def Ey:List A->V
 |[x]=>.a x
 |b=>.tp b
def fK(P:Program)(S:St)(f:FuncId)(d:List V)(K:V->List (Nat×Ao)->List (Nat×Root)->Nat->Prop):Prop:=
 ∃c a,Gp P f c a/\∃b,Ig S.roots d c=some b/\∃e,Dd S.roots ((b.filter JF).map (·.2.1))=some ((b.filter JF).map (·.2.2),e) /\
  (BD b++(B7 d c).map (·.1)).Nodup/\(∀x∈b,WI e (BD b++(B7 d c).map (·.1)) x) /\
  ∃g,CG e b a.io=some g/\∃h,HW g d c a.bx ((AU (a.res.flatMap (·.2)++a.bx.flatten) S.next).1.drop (a.res.flatMap (·.2)).length)=some h /\
  K (Ey (FU a.res (AU (a.res.flatMap (·.2)++a.bx.flatten) S.next).1)) [] ((AU (a.res.flatMap (·.2)++a.bx.flatten) S.next).2.1++h) (AU (a.res.flatMap (·.2)++a.bx.flatten) S.next).2.2
def UQ(C:List Value->World->(Ending->World->Prop)->Prop)(b:List Arg)(h:Out):Prop:=
 ∀(w:World) (own:Nat->Nat->Prop) (g:Bp) (pl:Aw) (i:List Value),
  Hp w own pl g pl (BX b).2.1 (BX b).2.2 (BX b).2.2 (C3 b) w ->
  Ai (VR pl (BX b).2.2) (BX b).1 i ->
  C i w λe k=>∃rv j c a f d,e=.returned rv/\Hp w own pl j c a f f (C3 b) k/\VR c f d rv/\HS b h a d
def fL(C:List Value->World->(Ending->World->Prop)->Prop)(S:St)(d:List V)(K:V->List (Nat×Ao)->List (Nat×Root)->Nat->Prop):Prop:=
 ∃c a,UQ C c a/\∃b,Ig S.roots d c=some b/\∃e,Dd S.roots ((b.filter JF).map (·.2.1))=some ((b.filter JF).map (·.2.2),e) /\
  (BD b++(B7 d c).map (·.1)).Nodup/\(∀x∈b,WI e (BD b++(B7 d c).map (·.1)) x) /\
  ∃f,CG e b a.io=some f/\∃g,HW f d c a.bx ((AU (a.res.flatMap (·.2)++a.bx.flatten) S.next).1.drop (a.res.flatMap (·.2)).length)=some g /\
  K (Ey (FU a.res (AU (a.res.flatMap (·.2)++a.bx.flatten) S.next).1)) [] ((AU (a.res.flatMap (·.2)++a.bx.flatten) S.next).2.1++g) (AU (a.res.flatMap (·.2)++a.bx.flatten) S.next).2.2
def Ja(n:Nat)(g:FuncId)(a:List Value):List Value:=a.take n++[.func (.func g) #[] (a.drop n).toArray]
def nr(P:Program)(S:St)(f:FuncId)(d:List V)(K:V->List (Nat×Ao)->List (Nat×Root)->Nat->Prop):Prop:=
 ∃c g b,d=c++[.fn g b]/\fL (λe w R=>Calls P f (Ja c.length g e).toArray w R) S (c++b.map V.a) K
end Go.Vs
namespace Go.Vs
variable [Glb]
def Ft{α:Type}:∀(l r:List (Nat×α)) (t:Nat),get (l++r) t=match get l t with|some x=>some x|none=>get r t
 |[],_,_=>rfl
 |(k,x)::l,r,t=>by
  simp only[A1,get];split
  .rfl
  exact Ft l r t
def V6{α:Type}:∀{l:List (Nat×α)}{t:Nat},(∀x∈l,x.1≠t)->get l t=none
 |[],_,_=>rfl
 |(k,x)::l,t,h=>by
  simp only[get];rw[Ae (h (k,x) (by simp))];exact V6 λy a=>h y (by simp[a])
def vX{pl:Aw}{g:Nat}:∀(L:List (Nat×Root)){b:List (Nat×Root)}{c:C}{d:D}{a:List (Nat×Root)}{v:Value},(∀x∈L,g<=x.1)->DZ b c=some (d,a)->CR pl g c v->DZ (L++b) c=some (d,L++a)
 |[],_,_,_,_,_,_,h,_=>h
 |(R,x)::L,b,c,d,a,v,e,h,f=>vU (vX L (λy i=>e y (by simp[i])) h f) f (e (R,x) (by simp))
def vT{pl:Aw}{nc:Nat}(L:List (Nat×Root))(k:∀x∈L,nc<=x.1):∀{b:List C}{l:List Value}{a:List (Nat×Root)}{i:List D}{j:List (Nat×Root)},Ai (CR pl nc) b l->Dd a b=some (i,j)->Dd (L++a) b=some (i,L++j)
 |[],_,_,_,_,_,h=>by simp only[Dd,Ac,A5]at h ⊢;obtain⟨rfl,rfl⟩:=h;exact⟨rfl,rfl⟩
 |c::b,[],_,_,_,e,_=>e.elim
 |c::b,v::l,a,i,j,e,h=>by
  simp only[Dd]at h ⊢;split at h
  .rename_i d f n;rw[vX L k n e.1];simp only;split at h
   .rename_i m g o;simp only[Ac,A5]at h;obtain⟨rfl,rfl⟩:=h;rw[vT L k e.2 o]
   simp at h
  simp at h
def Iu:∀(c:List D) (n:Nat),n<=(AU c n).2.2/\(∀x∈(AU c n).2.1,n<=x.1/\x.1<(AU c n).2.2)
 |[],n=>⟨AE _,by simp[AU]⟩
 |.lf v::l,n=>Iu l n
 |.hole::l,n=>Iu l n
 |.sl f e::l,n=>by
  obtain⟨a,b⟩:=Iu l (n+1);simp only[AU];refine⟨by omega,λx d=>?_⟩;rcases AX.1 d with rfl|d
  .simp only;omega
  have:=b x d;omega
variable {w0:World} {own0:Nat->Nat->Prop} {pl0:Aw} {g:Bp} {pl:Aw} {roots:List (Nat×Root)} {nx nc fix:Nat} {w:World}
def vV{c:C}{d:D}{a:List (Nat×Root)}(h:∀t x,get roots t=some x->t<nx)(b:DZ roots c=some (d,a)):∀t x,get a t=some x->t<nx:=λt x e=>by
 obtain⟨y,f⟩:=lK b e;exact h t y f
def WO:∀(m:List C) (F:List Value) (roots:List (Nat×Root)) (n:List D) (K:List (Nat×Root)) (g:Bp) (pl:Aw) (nx:Nat),Hp w0 own0 pl0 g pl roots nx nc fix w->Ai (CR pl nc) m F->Dd roots m=some (n,K) ->
  ∃A f,Hp w0 own0 pl0 A f ((AU n nx).2.1++K) (AU n nx).2.2 nc fix w/\FO nx pl f/\Ai (CR f (AU n nx).2.2) (AU n nx).1 F/\(∀t x,get K t=some x->t<nx)
 |[],[],roots,n,K,g,pl,nx,h,_,q=>by
  simp only[Dd,Ac,A5]at q;obtain⟨rfl,rfl⟩:=q;exact⟨g,pl,h,λ_ _ _=>rfl,trivial,λt x E=>(h.roots t x E).1⟩
 |[],_::_,_,_,_,_,_,_,_,B,_=>B.elim
 |_::_,[],_,_,_,_,_,_,_,B,_=>B.elim
 |c::m,v::F,roots,n,K,g,pl,nx,h,B,q=>by
  simp only[Dd]at q;split at q
  .rename_i d l X;split at q
   .rename_i j b P;simp only[Ac,A5]at q;obtain⟨rfl,rfl⟩:=q;have I:=vV (λt x E=>(h.roots t x E).1) X
    -- a tree under the id nx
    have tree:∀(s:Nat) (z:List (List D)) (G:Bp) (i:Aw),d=.sl s z->Hp w0 own0 pl0 G i ((nx,.tr s z)::l) (nx+1) nc fix w->FO nx pl i->Gc (i nx []) s 0 z.length v ->
      ∃A f,Hp w0 own0 pl0 A f ((AU (d::j) nx).2.1++b) (AU (d::j) nx).2.2 nc fix w/\FO nx pl f/\Ai (CR f (AU (d::j) nx).2.2) (AU (d::j) nx).1 (v::F)/\(∀t x,get b t=some x->t<nx):=by
     rintro s z G i rfl T y V;have S:=h.ncle;have H:Ai (CR i nc) m F:=B.2.mono λx u k=>k.agree λr p Y=>y r p (by omega);have U:=vT (pl:=i) (nc:=nc) [(nx,.tr s z)] (by simpa using S) H P;obtain⟨A,f,N,L,O,W⟩:=WO m F _ j _ G i (nx+1) T H U;have R:=Iu j (nx+1);have J:∀t x,get b t=some x->t<nx:=by
      intro t x E;have:∀(m:List C) (r M:List (Nat×Root)) (n:List D),Dd r m=some (n,M)->(∀t x,get r t=some x->t<nx)->∀t x,get M t=some x->t<nx:=by
       intro m
       induction m with
       |nil=>intro r M n o Q;simp only[Dd,Ac,A5]at o;obtain⟨_,rfl⟩:=o;exact Q
       |cons c m ih=>
        intro r M n o Q;simp only[Dd]at o;split at o
        .rename_i d1 r1 Z;split at o
         .rename_i d2 r2 e2;simp only[Ac,A5]at o;obtain⟨_,rfl⟩:=o;exact ih _ _ _ e2 (vV Q Z)
         simp at o
        simp at o
      exact this m l b j P I t x E
     refine⟨A,f,N.roots_eq ?_,λr p Y=>(L r p (by omega)).trans (y r p Y),⟨⟨by simp only[AU];omega, ?_⟩,O⟩,J⟩
     .intro t;simp only[AU];simp only[A1,A0,get,Ft];by_cases e:nx=t
      .subst e;rw[Af rfl,V6 (λx E=>by have:=(R.2 x E).1;omega)];simp
      simp[e]
     rw[L nx [] (by omega)];exact V
    rcases vW h B.1 X with ⟨rfl,hv,rfl⟩|⟨s,rfl,rfl,rfl⟩|⟨s,z,G,i,hd,T,y,V,_⟩
    .obtain⟨A,f,N,L,O,W⟩:=WO m F _ j _ g pl nx h B.2 P;exact⟨A,f,N,L,⟨⟨rfl,hv⟩,O⟩,W⟩
    .refine tree s [] _ _ rfl (h.newNil s) (D6 _ _ _) ?_;rw[CU];exact⟨rfl,λ_=>rfl,AE _,none,rfl,λ_=>rfl⟩
    exact tree s z G i hd T y V
   simp at q
  simp at q
end Go.Vs
namespace Go.Vs
variable [Glb]
inductive Ent where
 |tree (r:Nat) (p:Ao)
 |read (r:Nat) (p:Ao) (lo sz:Nat)
 |nil (sz:Nat)
 |box (r c k:Nat)
def Pg(a:Nat):C->Ent
 |.rf r p _ _ _=>.tree r p
 |_=>.nil a
def ND(b:Nat):C->Ent
 |.rf r p s a _=>.read r p a s
 |_=>.nil b
def FI(m:M)(c:C)(d:D)(k:Kk):List (Nat×Ent)×Kk:=
 match d with
 |.lf _=>([],k)
 |.hole=>([],k)
 |.sl a b=>match m with
  |.io=>([(k.1,Pg a c)],(k.1+1,k.2))
  |.ow=>([(k.2,Pg a c)],(k.1,k.2+1))
  |.rd=>([(k.2,ND a c)],(k.1,k.2+1))
  |.rx=>([(k.1,ND a c)],(k.1+1,k.2))
def H8:List (M×C×D)->Kk->List (Nat×Ent)×Kk
 |[],k=>([],k)
 |(m,c,d)::l,k=>((FI m c d k).1++(H8 l (FI m c d k).2).1,(H8 l (FI m c d k).2).2)
def md(x:M×C×D):M×D:=(x.1,x.2.2)
def O4(m:M)(c:C)(d:D)(k:Kk):(FI m c d k).2=(BY m d k).2.2:=by
 cases d<;>first|rfl|(cases m<;>rfl)
def Mu(k a:Kk)(id:Nat):Prop:=(k.1<=id/\id<a.1)\/(k.2<=id/\id<a.2)
def iV(m:M)(d:D)(k:Kk):k.1<=(BY m d k).2.2.1/\k.2<=(BY m d k).2.2.2:=by
 cases d<;>first|exact⟨AE _,AE _⟩|(cases m<;>simp[BY])
def Nk:∀(l:List (M×D)) (k:Kk),k.1<=(Bh l k).2.2.1/\k.2<=(Bh l k).2.2.2
 |[],_=>⟨AE _,AE _⟩
 |(m,d)::l,k=>by
  have a:=iV m d k;have b:=Nk l (BY m d k).2.2;exact⟨CW a.1 b.1,CW a.2 b.2⟩
def iW:∀(l:List (M×D)) (k:Kk),(Bh l k).2.2.1=k.1+DL l
 |[],_=>rfl
 |(m,d)::l,k=>by
  simp only[Bh,DL];rw[iW l];have:(BY m d k).2.2.1=k.1+LF (m,d):=by cases d<;>first|rfl|(cases m<;>rfl)
  rw[this];omega
def pd{m:M}{c:C}{d:D}{k:Kk}{x:Nat×Ent}(h:x∈(FI m c d k).1):Mu k (BY m d k).2.2 x.1:=by
 cases d with
 |lf v=>simp[FI]at h
 |hole=>simp[FI]at h
 |sl b a=>
  cases m<;>(simp only[FI,Db]at h;subst h;simp[Mu,BY])
def g9:∀{l:List (M×C×D)}{k:Kk}{x:Nat×Ent},x∈(H8 l k).1->Mu k (Bh (l.map md) k).2.2 x.1
 |[],_,_,h=>by simp[H8]at h
 |(m,c,d)::l,k,x,h=>by
  simp only[H8,C7]at h;have a:=iV m d k;have b:=Nk (l.map md) (BY m d k).2.2;simp only[A2,md,Bh];rcases h with h|h
  .have:=pd h;unfold Mu at this ⊢;rcases this with t|t
   .exact .inl ⟨t.1,CO t.2 b.1⟩
   exact .inr ⟨t.1,CO t.2 b.2⟩
  have:=g9 h;rw[O4]at this;unfold Mu at this ⊢;rcases this with t|t
  .exact .inl ⟨CW a.1 t.1,t.2⟩
  exact .inr ⟨CW a.2 t.1,t.2⟩
def EW(l:List (Nat×Ent)):List Nat:=l.map (·.1)
def Ziu{c l2:List (Nat×Ent)}{k k1 k2:Kk}{F:Nat}(i:(EW c).Nodup)(j:(EW l2).Nodup)(g:∀x∈c,Mu k k1 x.1)(h:∀x∈l2,Mu k1 k2 x.1)(r:k2.1<=F)(l:F<=k.2)(s:k.1<=k1.1/\k.2<=k1.2)(m:k1.1<=k2.1):(EW (c++l2)).Nodup:=by
 unfold EW at *
 rw[C2,ME];refine⟨i,j, ?_⟩;intro a d b f e;simp only[CC]at d f;obtain⟨x,n,rfl⟩:=d;obtain⟨y,o,rfl⟩:=f;have p:=g x n;have q:=h y o;unfold Mu at p q;omega
def pf:∀(l:List (M×C×D)) (k:Kk) (F:Nat),(Bh (l.map md) k).2.2.1<=F->F<=k.2->(EW (H8 l k).1).Nodup
 |[],_,_,_,_=>by simp[H8,EW]
 |(m,c,d)::l,k,F,a,e=>by
  simp only[A2,md,Bh]at a;have f:=iV m d k;have g:=Nk (l.map md) (BY m d k).2.2;refine Ziu (F:=F) (k:=k) (k1:=(BY m d k).2.2) (k2:=(Bh (l.map md) (BY m d k).2.2).2.2) ?_ ?_ (λx b=>pd b) (λx b=>by have:=g9 b;rwa[O4]at this) a e f g.1
  .cases d with
   |lf v=>simp[FI,EW]
   |hole=>simp[FI,EW]
   |sl i h=>cases m<;>simp[FI,EW]
  rw[O4];exact pf l _ F a (by omega)
def Ij{α:Type}:∀{l:List (Nat×α)}{id:Nat}{e:α},(l.map (·.1)).Nodup->(id,e)∈l->get l id=some e
 |[],_,_,_,h=>by simp at h
 |(k,x)::l,id,e,a,h=>by
  simp only[A2,E4]at a;rcases AX.1 h with h|h
  .simp only[A5]at h;obtain⟨rfl,rfl⟩:=h;simp[get]
  simp only[get];rw[Ae]
  .exact Ij a.2 h
  rintro rfl;exact a.1 (Ym h)
def LX{α:Type}:∀{l:List (Nat×α)}{id:Nat}{e:α},get l id=some e->(id,e)∈l
 |[],_,_,h=>by simp[get]at h
 |(k,x)::l,id,e,h=>by
  simp only[get]at h;split at h
  .rename_i a;subst a;simp only[Ac]at h;subst h;simp
  exact Bx _ (LX h)
def Cd(pl:Aw)(E:List (Nat×Ent)):Aw:=λid q=>
 match get E id with
 |some (.tree r p)=>pl r (p++q)
 |some (.read r p d a)=>match q with
  |[]=>⟨(pl r p).nil,(pl r p).b,(pl r p).off+d*a,(pl r p).cap-d,a,(pl r p).raw⟩
  |(i,c)::e=>pl r (p++(d+i,c)::e)
 |some (.nil a)=>⟨true,0,0,0,a,none⟩
 |some (.box r c _)=>⟨false,(pl r []).b,(pl r []).off+c,0,1,none⟩
 |none=>default
def C8:List (Nat×Ent)->Nat×Ao->Option (Nat×Ao)
 |[],_=>none
 |(id,.tree r p)::l,x=>if x.1=r/\p <+: x.2 then some (id,x.2.drop p.length) else C8 l x
 |(id,.box r c k)::l,x=>
  match x.2 with
  |[(0,j)]=>if x.1=r/\c<=j/\j<c+k then some (id,[(0,j-c)]) else C8 l x
  |_=>C8 l x
 |_::l,x=>C8 l x
def BJ:List (Nat×Ent)->List Nat
 |[]=>[]
 |(_,.tree r _)::l=>r::BJ l
 |(_,.box r _ _)::l=>r::BJ l
 |_::l=>BJ l
def Ng:∀{E:List (Nat×Ent)}{x:Nat×Ao},x.1 ∉ BJ E->C8 E x=none
 |[],_,_=>rfl
 |(id,e)::l,x,h=>by
  cases e with
  |tree r p=>
   simp only[BJ,AX,not_or]at h;simp only[C8];rw[Ae (λk=>h.1 k.1)];exact Ng h.2
  |box r c k=>
   simp only[BJ,AX,not_or]at h;simp only[C8];split
   .rw[Ae (λk=>h.1 k.1)];exact Ng h.2
   exact Ng h.2
  |read r p b a=>simp only[BJ]at h;simp only[C8];exact Ng h
  |nil a=>simp only[BJ]at h;simp only[C8];exact Ng h
def jK:∀{E:List (Nat×Ent)}{id r:Nat}{p:Ao},(id,Ent.tree r p)∈E->r∈BJ E
 |[],_,_,_,h=>by simp at h
 |(k,e)::l,id,r,p,h=>by
  rcases AX.1 h with h|h
  .simp only[A5]at h;obtain⟨rfl,rfl⟩:=h;simp[BJ]
  have:=jK h;cases e<;>simp[BJ,this]
def jJ:∀{E:List (Nat×Ent)}{id r c k:Nat},(id,Ent.box r c k)∈E->r∈BJ E
 |[],_,_,_,_,h=>by simp at h
 |(k,e)::l,id,r,c,a,h=>by
  rcases AX.1 h with h|h
  .simp only[A5]at h;obtain⟨rfl,rfl⟩:=h;simp[BJ]
  have:=jJ h;cases e<;>simp[BJ,this]
def S9:∀{E:List (Nat×Ent)}{id r:Nat}{p q:Ao},(BJ E).Nodup->(id,Ent.tree r p)∈E->C8 E (r,p++q)=some (id,q)
 |[],_,_,_,_,_,h=>by simp at h
 |(k,e)::l,id,r,p,q,a,h=>by
  rcases AX.1 h with d|b
  .simp only[A5]at d;obtain⟨rfl,rfl⟩:=d;simp[C8]
  have f:=jK b;cases e with
  |tree g i=>
   simp only[BJ,E4]at a;simp only[C8];rw[Ae (λk=>a.1 (by rw[<-k.1];exact f))];exact S9 a.2 b
  |box g c k=>
   simp only[BJ,E4]at a;simp only[C8];split
   .rw[Ae (λk=>a.1 (by rw[<-k.1];exact f))];exact S9 a.2 b
   exact S9 a.2 b
  |read g i m j=>simp only[BJ]at a;simp only[C8];exact S9 a b
  |nil j=>simp only[BJ]at a;simp only[C8];exact S9 a b
def V9:∀{E:List (Nat×Ent)}{id r c k j:Nat},(BJ E).Nodup->(id,Ent.box r c k)∈E->j<k->C8 E (r,[(0,c+j)])=some (id,[(0,j)])
 |[],_,_,_,_,_,_,h,_=>by simp at h
 |(i,e)::l,id,r,c,k,j,a,h,d=>by
  rcases AX.1 h with f|b
  .simp only[A5]at f;obtain⟨rfl,rfl⟩:=f;simp only[C8];rw[Af ⟨by simp,by omega,by omega⟩];congr 4;omega
  have g:=jJ b;cases e with
  |tree m n=>
   simp only[BJ,E4]at a;simp only[C8];rw[Ae (λk=>a.1 (by rw[<-k.1];exact g))];exact V9 a.2 b d
  |box m p q=>
   simp only[BJ,E4]at a;simp only[C8];rw[Ae (λk=>a.1 (by rw[<-k.1];exact g))];exact V9 a.2 b d
  |read m n s o=>simp only[BJ]at a;simp only[C8];exact V9 a b d
  |nil o=>simp only[BJ]at a;simp only[C8];exact V9 a b d
def GY(g:Bp)(E:List (Nat×Ent)):Bp:=λb o=>(g b o).bind (C8 E)
def ES(g:Bp)(E:List (Nat×Ent))(b o:Nat):Prop:=(GY g E b o).isSome=true
section
variable {w0:World} {own0:Nat->Nat->Prop} {pl0:Aw} {g:Bp} {pl:Aw} {roots:List (Nat×Root)} {nx nc fix:Nat} {w:World} {E:List (Nat×Ent)}
def RF(pl : Aw)(roots : List (Nat × Root))(E : List (Nat × Ent)) : M × C × D → Value → Prop
  |(_, _, .lf u), v => v = u ∧ u.oneCell' = true
  |(_, _, .hole), v => v.oneCell' = true
  |(m, c, .sl d f), v=>
    (c = .nl d ∧ f = [] ∧ v = .slice none 0 0) ∨
    (∃ r p a n, c = .rf r p d a n ∧ Gc (pl r p) d a n v ∧
      (((m = .rd ∨ m = .rx) ∧ (a = 0 ∨ 0 < n) ∧ r ∉ BJ E ∧ ∃ l, EA roots r p = some (d, l) ∧ a + n ≤ l.length ∧ f = (l.drop a).take n) ∨
       ((m = .io ∨ m = .ow) ∧ a = 0 ∧ ∃ e b, get roots r = some (.tr e b) ∧ AH e b p = some (d, f) ∧ n = f.length)))
def Zbc(h:Hp w0 own0 pl0 g pl roots nx nc fix w)(v:(EW E).Nodup)(u:(BJ E).Nodup){id r:Nat}{p:Ao}(l:(id,Ent.tree r p)∈E){f:Nat}{e:List (List D)}(A:get roots r=some (.tr f e)){n:Nat}{k:List (List D)}(x:AH f e p=some (n,k))(B:Nat->Nat->Prop)(j:Nat):
  Er B w (GY g E) (Cd pl E) j id (.tr n k):=by
 have t:=Ij v l;have d:∀q,Cd pl E id q=pl r (p++q):=λq=>by unfold Cd;rw[t]
 intro q m y;obtain⟨a,b⟩:=(h.roots r _ A).2 (p++q) m (by rw[Mb,x];exact y);refine⟨a.move (d q) (λi c _ _ _ _=>by rw[d,EG]) λ_ _=>rfl,b.move (d q) λb o s=>⟨?_,λz=>z,rfl⟩⟩;unfold GY;rw[s];exact S9 u l
def ZT{id o:Nat}(s:(EW E).Nodup)(p:(id,Ent.nil o)∈E){d:Nat}(t:d=o)(w:World)(l:Bp)(n:Nat->Nat->Prop)(h:Nat):Er n w l (Cd pl E) h id (.tr d [])/\Er n w l (Cd pl E) h id (.im d []):=by
 subst t;have r:=Ij s p;have b:∀q,Cd pl E id q=⟨true,0,0,0,d,none⟩:=λq=>by unfold Cd;rw[r]
 have e:∀q m,AH d [] q=some m->q=[]/\m=(d,[]):=by
  intro q m f;cases q with
  |nil=>simp only[AH,Ac]at f;exact⟨rfl,f.symm⟩
  |cons a q=>obtain⟨i,c⟩:=a;simp[AH]at f
 constructor
 .intro q m f;obtain⟨rfl,rfl⟩:=e q m f;exact⟨⟨by rw[b],by rw[b];simp,by rw[b];simp,by simp,by simp⟩,λj k=>by rw[b]at k;simp at k⟩
 intro q m f;obtain⟨rfl,rfl⟩:=e q m f;exact⟨⟨by rw[b],by rw[b];simp,by rw[b];simp,by simp,by simp⟩,λj k=>by simp at k⟩
def vF(h:Hp w0 own0 pl0 g pl roots nx nc fix w){r:Nat}(B:r ∉ BJ E){p:Ao}{n:Nat×List (List D)}(c:EA roots r p=some n){j:Nat}(i:j<n.2.length*n.1):
  G2 w (ES g E) (pl r p).b ((pl r p).off+j):=by
 obtain⟨_,f⟩:=h.node c;have q:0<n.1:=by
  rcases Yj n.1 with l|l
  .rw[l]at i;simp at i
  exact l
 have A:j / n.1<n.2.length:=U6 (by rw[Je];exact i);have y:j%n.1<n.1:=KG _ q;have m:j / n.1*n.1+j%n.1=j:=by rw[Je];exact U7 _ _
 have s:=BW A;have z:=f.szs _ (CP s);have hd:=BW (show j%n.1<(n.2[j / n.1]).length by omega);obtain⟨v,t,_⟩:=f.cells _ _ _ _ s hd;rw[m]at t;refine⟨World.block_lt_of_cell? _ _ t, ?_⟩;unfold ES GY;unfold EA at c;split at c
 .rename_i C u o;obtain⟨a,b⟩:=(h.roots r _ o).2 p n c;have:=b.lab a (j:=j) (by have:=HQ n.1 f.le;omega);rw[this,DF,Ng B];simp
 .rename_i C u o;obtain⟨a,b⟩:=(h.roots r _ o).2 p n c;have e:=b j (by rw[f.szp];exact i);cases d:g (pl r p).b ((pl r p).off+j) with
  |none=>simp
  |some x=>
   exfalso;rcases (h.lab _ _ _ d).2.1 with k|k
   .have:=e.1;omega
   exact e.2 k
 simp at c
def Zbb(h:Hp w0 own0 pl0 g pl roots nx nc fix w)(V:(EW E).Nodup){id r:Nat}{p:Ao}{t u:Nat}(U:(id,Ent.read r p t u)∈E)(O:r ∉ BJ E){l:List (List D)}(f:EA roots r p=some (u,l)){n:Nat}(K:t+n<=l.length)(T:Bp)(L:Nat):
  Er (G2 w (ES g E)) w T (Cd pl E) L id (.im u ((l.drop t).take n)):=by
 have M:=Ij V U;have s:Cd pl E id []=⟨(pl r p).nil,(pl r p).b,(pl r p).off+t*u,(pl r p).cap-t,u,(pl r p).raw⟩:=by unfold Cd;rw[M]
 have x:∀i c q,Cd pl E id ((i,c)::q)=pl r (p++(t+i,c)::q):=λi c q=>by unfold Cd;rw[M]
 obtain⟨_,A⟩:=h.node f;have P:=A.szp;intro q m z;cases q with
 |nil=>
  simp only[AH,Ac]at z;subst z;refine⟨⟨by rw[s],by rw[s];have:=A.le;simp;simp only at this;omega,by rw[s];intro F;have:=A.nil F;simp only;omega,λe I=>A.szs e (Gm (G4 I)), ?_⟩, ?_⟩
  .intro i e c d I hd;have J:=LH rfl _ _ I;obtain⟨v,W,H⟩:=A.cells _ e c d J hd;rw[s,A0,x];refine⟨v, ?_,H⟩;simp only;rw[show (pl r p).off+t*u+(i*u+c)=(pl r p).off+((t+i)*u+c) by rw[Fn];omega];exact W
  intro j y;rw[s]at y ⊢;simp only at y ⊢;rw[FQ];have C:((l.drop t).take n).length=n:=by simp;omega
  rw[C]at y;refine vF h O f ?_;simp only;have:=HQ u K;rw[Fn]at this;omega
 |cons a q=>
  obtain⟨i,c⟩:=a;have G:EA roots r (p++(t+i,c)::q)=some m:=by
   have o:AH u l ((t+i,c)::q)=some m:=by
    unfold AH at z ⊢;by_cases N:i<n
    .rw[EM,Af N,F2]at z;exact z
    rw[EM,Ae N]at z;simp at z
   unfold EA at f ⊢;cases B:get roots r with
   |none=>rw[B]at f;simp at f
   |some R=>
    rw[B]at f;cases R with
    |tr X S=>simp only at f ⊢;rw[Mb,f];exact o
    |im X S=>simp only at f ⊢;rw[Mb,f];exact o
    |bx Q=>simp at f
    |ib Q=>simp at f
  obtain⟨_,a⟩:=h.node G;refine⟨a.move (x i c q) (λj k _ _ _ _=>by rw[A1,x];simp) λ_ _=>rfl, ?_⟩;intro j y;rw[x]at y ⊢;exact vF h O G (by rw[a.szp]at y;exact y)
def xJ(e:(EW E).Nodup){id r:Nat}{p:Ao}(b:(id,Ent.tree r p)∈E){a n:Nat}{v:Value}(f:Gc (pl r p) a 0 n v){N:Nat}(c:id<N):CR (Cd pl E) N (.rf id [] a 0 n) v:=by
 have d:=Ij e b;refine⟨c, ?_⟩;rw[show Cd pl E id []=pl r (p++[]) by unfold Cd;rw[d],AB];exact f
def xI(l:(EW E).Nodup){id r:Nat}{p:Ao}{c d:Nat}(i:(id,Ent.read r p c d)∈E){n:Nat}{v:Value}(m:Gc (pl r p) d c n v)(q:c=0\/0<n){N:Nat}(j:id<N):CR (Cd pl E) N (.rf id [] d 0 n) v:=by
 have k:=Ij l i;refine⟨j, ?_⟩;rw[show Cd pl E id []=⟨(pl r p).nil,(pl r p).b,(pl r p).off+c*d,(pl r p).cap-c,d,(pl r p).raw⟩ by unfold Cd;rw[k]];obtain⟨e,f,o,A,rfl,h⟩:=m;refine⟨rfl,λa=>?_,by simp only;omega,A,rfl,λ_=>?_⟩
 .have:=f a;simp only;omega
 rw[h (by omega),e];simp
def Xo(e:(EW E).Nodup){id a:Nat}(b:(id,Ent.nil a)∈E){N:Nat}(c:id<N):CR (Cd pl E) N (.rf id [] a 0 0) (.slice none 0 0):=by
 have d:=Ij e b;refine⟨c, ?_⟩;rw[show Cd pl E id []=⟨true,0,0,0,a,none⟩ by unfold Cd;rw[d]];exact⟨rfl,λ_=>rfl,AE _,none,rfl,λ_=>rfl⟩
def Zba(h:Hp w0 own0 pl0 g pl roots nx nc fix w)(f:(EW E).Nodup)(Q:(BJ E).Nodup){m:M}{c:C}{d:D}{u:Value}(L:RF pl roots E (m,c,d) u){k:Kk}{N:Nat}(s:∀x∈(FI m c d k).1,x∈E)(o:(BY m d k).2.2.1<=N)(q:(BY m d k).2.2.2<=N):
  CR (Cd pl E) N (BY m d k).1 u/\∀y∈(BY m d k).2.1,y.1<N/\Er (G2 w (ES g E)) w (GY g E) (Cd pl E) N y.1 y.2:=by
 cases d with
 |lf v=>exact⟨L,by simp[BY]⟩
 |hole=>exact⟨L,by simp[BY]⟩
 |sl e z=>
  rcases L with ⟨rfl,rfl,rfl⟩|⟨r,p,t,n,rfl,P,j⟩
  .cases m with
   |io=>
    simp only[BY]at o q ⊢;have a:=s (k.1,.nil e) (by simp[FI,Pg]);exact⟨Xo f a (by omega),by simp only[Db,forall_eq];exact⟨by omega,(ZT f a rfl w _ _ _).1⟩⟩
   |ow=>
    simp only[BY]at o q ⊢;have a:=s (k.2,.nil e) (by simp[FI,Pg]);exact⟨Xo f a (by omega),by simp only[Db,forall_eq];exact⟨by omega,(ZT f a rfl w _ _ _).1⟩⟩
   |rd=>
    simp only[BY]at o q ⊢;have a:=s (k.2,.nil e) (by simp[FI,ND]);exact⟨Xo f a (by omega),by simp only[Db,forall_eq];exact⟨by omega,(ZT f a rfl w _ _ _).2⟩⟩
   |rx=>
    simp only[BY]at o q ⊢;have a:=s (k.1,.nil e) (by simp[FI,ND]);exact⟨Xo f a (by omega),by simp only[Db,forall_eq];exact⟨by omega,(ZT f a rfl w _ _ _).2⟩⟩
  have I:∀id,(id,Ent.read r p t e)∈E->(t=0\/0<n)->r ∉ BJ E->(∃l,EA roots r p=some (e,l)/\t+n<=l.length/\z=(l.drop t).take n)->id<N ->
    CR (Cd pl E) N (.rf id [] e 0 z.length) u/\Er (G2 w (ES g E)) w (GY g E) (Cd pl E) N id (.im e z):=by
   rintro id i b F ⟨l,R,O,rfl⟩ K;have:((l.drop t).take n).length=n:=by simp;omega
   rw[this];exact⟨xI f i P b K,Zbb h f i F R O _ _⟩
  have J:∀id,(id,Ent.tree r p)∈E->t=0->(∃H A,get roots r=some (.tr H A)/\AH H A p=some (e,z)/\n=z.length)->id<N ->
    CR (Cd pl E) N (.rf id [] e 0 z.length) u/\Er (G2 w (ES g E)) w (GY g E) (Cd pl E) N id (.tr e z):=by
   rintro id i rfl ⟨H,A,F,S,rfl⟩ K;exact⟨xJ f i P K,Zbc h f Q i F S _ _⟩
  cases m with
  |io=>
   simp only[BY]at o q ⊢;rcases j with ⟨B,_⟩|⟨_,b,G⟩
   .simp at B
   have a:=s (k.1,.tree r p) (by simp[FI,Pg]);have:=J _ a b G (by omega);exact⟨this.1,by simp only[Db,forall_eq];exact⟨by omega,this.2⟩⟩
  |ow=>
   simp only[BY]at o q ⊢;rcases j with ⟨B,_⟩|⟨_,b,G⟩
   .simp at B
   have a:=s (k.2,.tree r p) (by simp[FI,Pg]);have:=J _ a b G (by omega);exact⟨this.1,by simp only[Db,forall_eq];exact⟨by omega,this.2⟩⟩
  |rd=>
   simp only[BY]at o q ⊢;rcases j with ⟨_,b,F,G⟩|⟨B,_⟩
   .have a:=s (k.2,.read r p t e) (by simp[FI,ND]);have:=I _ a b F G (by omega);exact⟨this.1,by simp only[Db,forall_eq];exact⟨by omega,this.2⟩⟩
   simp at B
  |rx=>
   simp only[BY]at o q ⊢;rcases j with ⟨_,b,F,G⟩|⟨B,_⟩
   .have a:=s (k.1,.read r p t e) (by simp[FI,ND]);have:=I _ a b F G (by omega);exact⟨this.1,by simp only[Db,forall_eq];exact⟨by omega,this.2⟩⟩
   simp at B
def ph(h:Hp w0 own0 pl0 g pl roots nx nc fix w)(r:(EW E).Nodup)(q:(BJ E).Nodup){N:Nat}:∀(a:List (M×C×D)) (f:List Value) (k:Kk),Ai (RF pl roots E) a f->(∀x∈(H8 a k).1,x∈E)->(Bh (a.map md) k).2.2.1<=N->(Bh (a.map md) k).2.2.2<=N ->
  Ai (CR (Cd pl E) N) (Bh (a.map md) k).1 f/\∀y∈(Bh (a.map md) k).2.1,y.1<N/\Er (G2 w (ES g E)) w (GY g E) (Cd pl E) N y.1 y.2
 |[],[],k,_,_,_,_=>⟨trivial,by simp[Bh]⟩
 |[],_::_,_,b,_,_,_=>b.elim
 |_::_,[],_,b,_,_,_=>b.elim
 |(m,c,d)::a,u::f,k,b,i,o,p=>by
  simp only[A2,md,Bh]at o p ⊢;have s:=Nk (a.map md) (BY m d k).2.2;simp only[H8,C7]at i;have l:=Zba h r q b.1 (λx j=>i x (.inl j)) (N:=N) (by omega) (by omega);have n:=ph h r q a f (BY m d k).2.2 b.2 (λx j=>i x (.inr (by rw[O4];exact j))) o p;refine⟨⟨l.1,n.1⟩,λy e=>?_⟩;rcases C7.1 e with e|e
  .exact l.2 y e
  exact n.2 y e
def Za9(h:Hp w0 own0 pl0 g pl roots nx nc fix w)(z:(EW E).Nodup)(s:(BJ E).Nodup){id r c k:Nat}(l:(id,Ent.box r c k)∈E){i:List C}(A:get roots r=some (.bx i))(G:c+k<=i.length){f:List C}{n:List Value}{N:Nat}(e:Ai (CR (Cd pl E) N) f n)(y:f.length=k)
  (d:∀j u,n[j]?= some u->w.cell? ⟨(pl r []).b,(pl r []).off+(c+j),none⟩=some u) (D:Nat->Nat->Prop):
  Er D w (GY g E) (Cd pl E) N id (.bx f):=by
 have q:=Ij z l;intro j x m;obtain⟨u,B,a⟩:=e.get j x m;have t:j<k:=by rw[<-y];exact (CY.1 m).1
 obtain⟨v,F,_,o,p⟩:=(h.roots r _ A).2 (c+j) _ (BW (by omega));rw[show Cd pl E id []=⟨false,(pl r []).b,(pl r []).off+c,0,1,none⟩ by unfold Cd;rw[q]];simp only[FQ];refine⟨u,d j u B,a, ?_,p⟩;unfold GY;rw[o];exact V9 s l t
end
end Go.Vs
namespace Go.Vs
variable [Glb]
def Dm:List (M×C×D)->List C->List (M×C×D)
 |(.ow,_,d)::l,c::a=>(.ow,c,d)::Dm l a
 |x::l,a=>x::Dm l a
 |[],_=>[]
def Ia:List (Nat×Nat×Nat)->Nat->List (Nat×Ent)
 |[],_=>[]
 |(r,c,k)::l,b=>(b,.box r c k)::Ia l (b+1)
def Jl(pl:Aw)(w:World):List Arg->List (Nat×Nat×Nat)->List Value->List Value->Prop
 |.val ag l::r,e,d,v::f=>∃a c,d=a++c/\a.length=l.length/\(ag=true->v=.agg a.toArray)/\(ag=false->a=[v])/\Jl pl w r e c f
 |.ptr l::r,x::e,d,v::f=>x.2.2=l.length/\∃a c,d=a++c/\a.length=l.length/\v=.pointer (some ⟨(pl x.1 []).b,(pl x.1 []).off+x.2.1,none⟩) /\
   (∀j u,a[j]?= some u->w.cell? ⟨(pl x.1 []).b,(pl x.1 []).off+(x.2.1+j),none⟩=some u)/\Jl pl w r e c f
 |[],[],d,[]=>d=[]
 |_,_,_,_=>False
def TG:∀{g:List C}{l:List (M×D)}{e:List (M×C×D)},K7 g l=some e->e.map (·.2.1)=g/\e.map md=l
 |[],[],e,h=>by simp only[K7,Ac]at h;subst h;exact⟨rfl,rfl⟩
 |c::g,(m,d)::l,e,h=>by
  simp only[K7,BP]at h;obtain⟨f,i,rfl⟩:=h;obtain⟨a,b⟩:=TG i;exact⟨by simp[a],by simp[b,md]⟩
 |[],_::_,_,h=>by simp[K7]at h
 |_::_,[],_,h=>by simp[K7]at h
section
variable {w0:World} {own0:Nat->Nat->Prop} {pl0:Aw} {g:Bp} {pl:Aw} {roots:List (Nat×Root)} {nx nc fix:Nat} {w:World} {E:List (Nat×Ent)}
def qN(h:Hp w0 own0 pl0 g pl roots nx nx fix w){A:Aw}(o:FO nx pl A):∀(s:List V) (F:List Value) (k:List Arg) (t:List (M×C×D)),Ai (VR pl nx) s F->Ig roots s k=some t ->
  ∃i,Ai (CR pl nx) (t.map (·.2.1)) i/\Jl A w k (B7 s k) i F/\t.map md=flat k/\∀x∈B7 s k,x.1<nx/\∃j,get roots x.1=some (.bx j)/\x.2.1+x.2.2<=j.length
 |[],[],[],t,_,b=>by
  simp only[Ig,Ac]at b;subst b;exact⟨[],trivial,rfl,rfl,by simp[B7]⟩
 |[],_::_,_,_,p,_=>p.elim
 |_::_,[],_,_,p,_=>p.elim
 |[],[],_::_,_,_,b=>by simp[Ig]at b
 |_::_,_::_,[],_,_,b=>by simp[Ig]at b
 |v::s,u::F,x::k,t,p,b=>by
  simp only[Ig]at b;split at b
  .rename_i R P d Q;simp only[Ac]at b;subst b;obtain⟨i,G,H,I,J⟩:=qN h o s F k P p.2 Q;have a:=p.1;unfold OA at d;split at d
   .rename_i c l;obtain⟨m,n⟩:=TG d;refine⟨[u]++i, ?_,⟨[u],i,rfl, ?_,by simp,by simp, ?_⟩, ?_, ?_⟩
    .rw[C2,m];exact Ai.append ⟨a,trivial⟩ G
    .rw[<-n,B3,<-B3 (f:=λx:M×C×D=>x.2.1),m];rfl
    .cases c<;>exact H
    .rw[C2,n,I];rfl
    cases c<;>exact J
   .rename_i j l;obtain⟨m,n⟩:=TG d;obtain⟨q,rfl,e⟩:=a;refine⟨q++i, ?_,⟨q,i,rfl, ?_,by simp,by simp,H⟩, ?_,J⟩
    .rw[C2,m];exact Ai.append e G
    .rw[<-n,B3,<-e.length,<-m,B3]
    rw[C2,n,I];rfl
   .rename_i r c l;split at d
    .rename_i j O;split at d
     .rename_i L;obtain⟨m,n⟩:=TG d;obtain⟨q,N,e,K⟩:=h.boxFrom (r:=r) (cs:=j) (by unfold Vd;rw[O]) ((j.drop c).take l.length) c (LH rfl);have z:q.length=l.length:=by rw[N];simp;omega
      refine⟨q++i, ?_,⟨rfl,q,i,rfl,z, ?_, ?_,H⟩, ?_, ?_⟩
      .rw[C2,m];exact Ai.append K G
      .rw[o r [] a.1];exact a.2
      .simp only;rw[o r [] a.1];exact e
      .rw[C2,n,I];rfl
      intro y B;simp only[B7,AX]at B;rcases B with rfl|B
      .exact⟨a.1,j,O,L⟩
      exact J y B
     simp at d
    simp at d
   simp at d
  simp at b
def ZS(h:Hp w0 own0 pl0 g pl roots nx nc fix w)(D:(EW E).Nodup)(J:(BJ E).Nodup){N:Nat}(F:Nat->Nat->Prop):∀(I:List Arg) (j:List (Nat×Nat×Nat)) (s o:List Value) (a:List C) (b:Nat),Jl pl w I j s o->Ai (CR (Cd pl E) N) a s->(∀x∈Ia j b,x∈E)->(∀x∈j,∃a,get roots x.1=some (.bx a)/\x.2.1+x.2.2<=a.length)->b+Ir I<=N ->
  Ai (VR (Cd pl E) N) (EJ I a b) o/\∀y∈Iw (Ds I a) b,y.1<N/\Er F w (GY g E) (Cd pl E) N y.1 y.2
 |[],[],s,[],a,b,i,m,_,_,_=>⟨trivial,by simp[Ds,Iw]⟩
 |.val false l::r,j,s,v::o,a,b,⟨G,H,e,f,_,k,A⟩,m,q,d,B=>by
  have k:=k rfl;subst k e;have L:l.length=1:=by rw[<-f];rfl
  have t:=m.take 1;have n:=m.drop 1;simp only[AT,AP,Yn,AV,AJ]at t n;obtain⟨u,z⟩:=ZS h D J F r j H o (a.drop 1) b A n q d B;simp only[EJ,Ds,L];refine⟨⟨?_,u⟩,z⟩
  match Q:a.take 1,t with
  |[c],t=>exact t.1
 |.val true l::r,j,s,v::o,a,b,⟨G,H,e,f,k,_,A⟩,m,q,d,B=>by
  have k:=k rfl;subst k e;have t:=m.take l.length;have n:=m.drop l.length;rw[<-f,MF  rfl]at t;rw[<-f,KI rfl]at n;obtain⟨u,z⟩:=ZS h D J F r j H o (a.drop G.length) b A n q d B;simp only[EJ,Ds,<-f];exact⟨⟨⟨G,rfl,t⟩,u⟩,z⟩
 |.ptr l::r,x::j,s,v::o,a,b,⟨S,G,H,e,f,k,P,A⟩,m,q,d,B=>by
  subst k e;have t:=m.take l.length;have n:=m.drop l.length;rw[<-f,MF  rfl]at t;rw[<-f,KI rfl]at n;simp only[Ir]at B;obtain⟨u,z⟩:=ZS h D J F r j H o (a.drop G.length) (b+1) A n (λy p=>q y (by obtain⟨U,V,W⟩:=x;simp[Ia,p])) (λy p=>d y (by simp[p])) (by omega);have M:=q (b,.box x.1 x.2.1 x.2.2) (by obtain⟨U,V,W⟩:=x;simp[Ia]);have R:=Ij D M;obtain⟨O,T,K⟩:=d x (by simp);simp only[EJ,Ds,Iw,<-f];refine⟨⟨⟨by omega, ?_⟩,u⟩,λy p=>?_⟩
  .rw[show Cd pl E b []=⟨false,(pl x.1 []).b,(pl x.1 []).off+x.2.1,0,1,none⟩ by unfold Cd;rw[R]];rfl
  rcases AX.1 p with rfl|p
  .exact⟨by simp only;omega,Za9 h D J M T K t (by rw[t.length,f,S]) P F⟩
  exact z y p
 |[],[],_,_::_,_,_,i,_,_,_,_=>i.elim
 |[],_::_,_,_,_,_,i,_,_,_,_=>i.elim
 |.val _ _::_,_,_,[],_,_,i,_,_,_,_=>i.elim
 |.ptr _::_,[],_,_,_,_,i,_,_,_,_=>i.elim
 |.ptr _::_,_::_,_,[],_,_,i,_,_,_,_=>i.elim
end
end Go.Vs
namespace Go.Vs
variable [Glb]
def Ew(a:List (M×C×D)):List D:=(a.filter JF).map (·.2.2)
def j6(a:List (M×C×D)):List C:=(a.filter JF).map (·.2.1)
def N5:List (M×C×D)->List Value->List Value
 |x::l,u::a=>if JF x then u::N5 l a else N5 l a
 |_,_=>[]
def sp{R:C->Value->Prop}:∀{a:List (M×C×D)}{b:List Value},Ai R (a.map (·.2.1)) b->Ai R (j6 a) (N5 a b)
 |[],[],_=>trivial
 |[],_::_,h=>h.elim
 |_::_,[],h=>h.elim
 |(m,c,d)::a,u::b,h=>by
  have:=sp h.2;by_cases e:m=.ow
  .subst e;exact⟨h.1,this⟩
  cases m<;>first|exact this|exact (e rfl).elim
def Kx{m:M}(b:m≠.ow){c:C}{d:D}{l:List (M×C×D)}{a:List C}:Dm ((m,c,d)::l) a=(m,c,d)::Dm l a:=by
 cases m<;>first|rfl|exact (b rfl).elim
def Wt:∀(b:List (M×C×D)) (a:List C),(Dm b a).map md=b.map md
 |[],_=>rfl
 |(m,c,d)::l,a=>by
  by_cases e:m=.ow
  .subst e;cases a with
   |nil=>simp[Dm,Wt l,md]
   |cons y a=>simp[Dm,Wt l,md]
  rw[Kx e];simp[Wt l]
def j8{c:C}{d:D}{l:List (M×C×D)}:Ew ((.ow,c,d)::l)=d::Ew l:=rfl
def j7{m:M}(a:m≠.ow){c:C}{d:D}{l:List (M×C×D)}:Ew ((m,c,d)::l)=Ew l:=by
 cases m<;>first|rfl|exact (a rfl).elim
def Zk5{c:C}{d:D}{l:List (M×C×D)}{u:Value}{a:List Value}:N5 ((.ow,c,d)::l) (u::a)=u::N5 l a:=rfl
def Zk4{m:M}(b:m≠.ow){c:C}{d:D}{l:List (M×C×D)}{u:Value}{a:List Value}:N5 ((m,c,d)::l) (u::a)=N5 l a:=by
 cases m<;>first|rfl|exact (b rfl).elim
def FS:List (M×C×D)->List Nat
 |[]=>[]
 |(m,c,d)::l=>match m,c,d with
  |.io,.rf r _ _ _ _,.sl _ _=>r::FS l
  |.ow,.rf r _ _ _ _,.sl _ _=>r::FS l
  |_,_,_=>FS l
def h_(a b:List (Nat×Ent)):BJ (a++b)=BJ a++BJ b:=by
 induction a with
 |nil=>rfl
 |cons x a c=>obtain⟨i,e⟩:=x;cases e<;>simp[BJ,c]
def iB:∀(a:List (M×C×D)) (k:Kk),BJ (H8 a k).1=FS a
 |[],_=>rfl
 |(m,c,d)::l,k=>by
  simp only[H8];rw[h_,iB l];cases d<;>cases m<;>cases c<;>simp[FI,FS,BJ,Pg,ND]
def iA:∀(a:List (Nat×Nat×Nat)) (b:Nat),BJ (Ia a b)=a.map (·.1)
 |[],_=>rfl
 |(r,c,k)::l,b=>by simp[Ia,BJ,iA l]
def Km:∀{fl:List (M×C×D)}{n x:Nat},x∈FS (Dm fl (AU (Ew fl) n).1)->x∈BD fl\/n<=x
 |[],_,_,h=>by simp[Dm,FS]at h
 |(m,c,d)::l,n,x,h=>by
  by_cases a:m=.ow
  .subst a;rw[j8]at h;cases d with
   |lf v=>simp only[AU,Dm,FS]at h;exact Km (fl:=l) h
   |hole=>simp only[AU,Dm,FS]at h;exact Km (fl:=l) h
   |sl e b=>
    simp only[AU,Dm,FS,AX]at h;rcases h with rfl|h
    .exact .inr (AE _)
    rcases Km (fl:=l) h with k|k
    .exact .inl k
    exact .inr (by omega)
  rw[j7 a,Kx a]at h;cases m with
  |ow=>exact (a rfl).elim
  |rd=>simp only[FS,BD]at h ⊢;exact Km (fl:=l) h
  |rx=>simp only[FS,BD]at h ⊢;exact Km (fl:=l) h
  |io=>
   cases c<;>cases d<;>simp only[FS,BD,AX]at h ⊢<;>first|exact Km (fl:=l) h|(rcases h with h|h;exact .inl (.inl h);exact (Km (fl:=l) h).elim (λk=>.inl (.inr k)) .inr)
def OE:∀{e:List (M×C×D)}{n:Nat},(BD e).Nodup->(∀x∈BD e,x<n)->(FS (Dm e (AU (Ew e) n).1)).Nodup
 |[],_,_,_=>by simp[Dm,FS]
 |(m,c,d)::l,n,h,a=>by
  by_cases f:m=.ow
  .subst f;rw[j8];have i:BD ((.ow,c,d)::l)=BD l:=rfl;rw[i]at h a;cases d with
   |lf v=>simp only[AU,Dm,FS];exact OE h a
   |hole=>simp only[AU,Dm,FS];exact OE h a
   |sl o j=>
    simp only[AU,Dm,FS,E4];refine⟨λb=>?_,OE h λx b=>by have:=a x b;omega⟩;rcases Km b with k|k
    .have:=a n k;omega
    omega
  rw[j7 f,Kx f];cases m with
  |ow=>exact (f rfl).elim
  |rd=>simp only[FS,BD]at h a ⊢;exact OE h a
  |rx=>simp only[FS,BD]at h a ⊢;exact OE h a
  |io=>
   have g:∀r,(r::BD l).Nodup->(∀x∈r::BD l,x<n)->(r::FS (Dm l (AU (Ew l) n).1)).Nodup:=by
    intro r h a;simp only[E4]at h ⊢;refine⟨λb=>?_,OE h.2 λx b=>a x (by simp[b])⟩;rcases Km b with k|k
    .exact h.1 k
    have:=a r (by simp);omega
   cases c<;>cases d<;>simp only[FS,BD]at h a ⊢<;>first|exact OE h a|exact g _ h a
section
variable {w0:World} {own0:Nat->Nat->Prop} {pl0:Aw} {g:Bp} {pl:Aw} {roots:List (Nat×Root)} {nx nc fix:Nat} {w:World} {E:List (Nat×Ent)}
def V7{q:Aw}{X L:List (Nat×Root)}{hand:List Nat}(j:FO nx pl q)(G:∀t,t<nx->get X t=get L t)(o:∀t x,get L t=some x->t<nx)(I:∀x∈BJ E,x<nx->x∈hand){N:Nat}:
  ∀(b:List (M×C×D)) (A:List Value) (n:Nat),Ai (CR pl nx) (b.map (·.2.1)) A->Ai (CR q N) (AU (Ew b) n).1 (N5 b A)->(∀x∈(AU (Ew b) n).2.1,get X x.1=some x.2)->(∀x∈b,WI L hand x) ->
  Ai (RF q X E) (Dm b (AU (Ew b) n).1) A
 |[],[],_,_,_,_,_=>trivial
 |[],_::_,_,h,_,_,_=>h.elim
 |_::_,[],_,h,_,_,_=>h.elim
 |(m,c,d)::b,u::A,n,h,f,z,J=>by
  by_cases e:m=.ow
  .subst e;rw[j8]at f z ⊢;rw[Zk5]at f;cases d with
   |lf v=>exact⟨f.1,V7 j G o I b A n h.2 f.2 z λx k=>J x (by simp[k])⟩
   |hole=>exact⟨f.1,V7 j G o I b A n h.2 f.2 z λx k=>J x (by simp[k])⟩
   |sl H B=>
    simp only[AU]at f z ⊢;refine⟨.inr ⟨n,[],0,B.length,rfl,f.1.2,.inr ⟨.inr rfl,rfl,H,B,z (n,.tr H B) (by simp),rfl,rfl⟩⟩,V7 j G o I b A (n+1) h.2 f.2 (λx k=>z x (by simp[k])) λx k=>J x (by simp[k])⟩
  rw[j7 e]at f z ⊢;rw[Zk4 e]at f;rw[Kx e];refine⟨?_,V7 j G o I b A n h.2 f z λx k=>J x (by simp[k])⟩;have a:=J (m,c,d) (by simp);have y:CR pl nx c u:=h.1;cases d with
  |lf v=>
   have:c=.lf v:=by cases m<;>first|exact a|exact (e rfl).elim
   subst this;exact y
  |hole=>exact y.one
  |sl H B=>
   cases c with
   |nl s=>
    have:s=H/\B=[]:=by cases m<;>first|exact a|exact (e rfl).elim
    obtain⟨rfl,rfl⟩:=this;exact .inl ⟨rfl,rfl,y⟩
   |rf r p s K k=>
    have T:Gc (q r p) s K k u:=by rw[j r p y.1];exact y.2
    by_cases F:m=.io
    .subst F;obtain⟨rfl,rfl,rfl,R,O,P,Q⟩:=a;exact .inr ⟨r,p,0,B.length,rfl,T,.inr ⟨.inl rfl,rfl,R,O,by rw[G r y.1];exact P,Q,rfl⟩⟩
    have:s=H/\(K=0\/0<k)/\r ∉ hand/\∃l,EA L r p=some (H,l)/\K+k<=l.length/\B=(l.drop K).take k:=by
     cases m<;>first|exact a|exact (e rfl).elim|exact (F rfl).elim
    obtain⟨rfl,P,Q,l,S,U,V⟩:=this;refine .inr ⟨r,p,K,k,rfl,T,.inl ⟨?_,P,λW=>Q (I r W y.1),l, ?_,U,V⟩⟩
    .cases m<;>first|exact .inl rfl|exact .inr rfl|exact (e rfl).elim|exact (F rfl).elim
    unfold EA at S ⊢;rw[G r y.1];exact S
   |lf v=>cases m<;>first|exact a.elim|exact (e rfl).elim
   |un=>cases m<;>first|exact a.elim|exact (e rfl).elim
   |pe r p i c=>cases m<;>first|exact a.elim|exact (e rfl).elim
   |pb r c=>cases m<;>first|exact a.elim|exact (e rfl).elim
end
end Go.Vs
namespace Go.Vs
variable [Glb]
def q9:∀{fl:List (M×C×D)}{x:Nat},x∈BD fl->∃p s e n f a,(M.io,C.rf x p s e n,D.sl f a)∈fl
 |[],_,h=>by simp[BD]at h
 |(m,c,d)::l,x,h=>by
  have b:x∈BD l->∃p s e n f a,(M.io,C.rf x p s e n,D.sl f a)∈(m,c,d)::l:=λh=>by
   obtain⟨p,s,e,n,f,a,k⟩:=q9 (fl:=l) h;exact⟨p,s,e,n,f,a,by simp[k]⟩
  cases m<;>cases c<;>cases d<;>simp only[BD,AX]at h<;>first|exact b h|(rcases h with rfl|h;exact⟨_,_,_,_,_,_,B5⟩;exact b h)
def Jl.len{pl:Aw}{w:World}:∀{as:List Arg}{b:List (Nat×Nat×Nat)}{c d:List Value},Jl pl w as b c d->b.length=Ir as
 |[],[],_,[],_=>rfl
 |.val _ l::r,b,c,v::d,h=>by obtain⟨e,f,_,_,_,_,h⟩:=h;have:=Jl.len (as:=r) h;exact this
 |.ptr l::r,x::b,c,v::d,h=>by obtain⟨_,e,f,_,_,_,_,h⟩:=h;simp only[Aq,Ir];rw[Jl.len h]
 |[],[],_,_::_,a=>a.elim
 |[],_::_,_,_,a=>a.elim
 |.val _ _::_,_,_,[],a=>a.elim
 |.ptr _::_,[],_,_,a=>a.elim
 |.ptr _::_,_::_,_,[],a=>a.elim
def Jl.move{pl i:Aw}{w:World}:∀{as:List Arg}{g:List (Nat×Nat×Nat)}{k m:List Value},(∀x∈g,i x.1 []=pl x.1 [])->Jl pl w as g k m->Jl i w as g k m
 |[],[],_,[],_,h=>h
 |.val _ l::r,g,k,v::m,j,h=>by obtain⟨n,o,a,b,c,d,h⟩:=h;exact⟨n,o,a,b,c,d,Jl.move (as:=r) j h⟩
 |.ptr l::r,x::g,k,v::m,j,h=>by
  obtain⟨a,n,o,b,c,d,e,h⟩:=h;have p:=j x (by simp);exact⟨a,n,o,b,c,by rw[p];exact d,by rw[p];exact e,Jl.move (as:=r) (λy q=>j y (by simp[q])) h⟩
 |[],[],_,_::_,_,f=>f.elim
 |[],_::_,_,_,_,f=>f.elim
 |.val _ _::_,_,_,[],_,f=>f.elim
 |.ptr _::_,[],_,_,_,f=>f.elim
 |.ptr _::_,_::_,_,[],_,f=>f.elim
def ZQ:∀(a:List (Nat×Nat×Nat)) (b:Nat),∀x∈Ia a b,b<=x.1/\x.1<b+a.length
 |[],_,_,h=>by simp[Ia]at h
 |(r,c,k)::l,b,x,h=>by
  simp only[Ia,AX]at h;simp only[Aq];rcases h with rfl|h
  .simp only;omega
  have:=ZQ l (b+1) x h;omega
def pc:∀(a:List (Nat×Nat×Nat)) (b:Nat),(EW (Ia a b)).Nodup
 |[],_=>by simp[Ia,EW]
 |(r,c,k)::l,b=>by
  simp only[Ia,EW,A2,E4];refine⟨λh=>?_,pc l (b+1)⟩;simp only[CC]at h;obtain⟨x,d,e⟩:=h;have:=ZQ l (b+1) x d;omega
def qd:∀{E:List (Nat×Ent)}{y x:Nat×Ao},C8 E y=some x->∃e,(x.1,e)∈E
 |[],_,_,h=>by simp[C8]at h
 |(i,e)::l,y,x,h=>by
  have a:C8 l y=some x->∃b,(x.1,b)∈(i,e)::l:=λh=>by
   obtain⟨b,k⟩:=qd (E:=l) h;exact⟨b,by simp[k]⟩
  cases e with
  |tree r p=>
   simp only[C8]at h;split at h
   .simp only[Ac]at h;subst h;exact⟨_,B5⟩
   exact a h
  |box r c k=>
   simp only[C8]at h;split at h
   .split at h
    .simp only[Ac]at h;subst h;exact⟨_,B5⟩
    exact a h
   exact a h
  |read r p f d=>exact a h
  |nil d=>exact a h
def F5(b:List (M×C×D))(n:Nat)(c:List (Nat×Nat×Nat))(a:List Arg):List (Nat×Ent):=
 (H8 (Dm b (AU (Ew b) n).1) (0,C3 a)).1++Ia c (DL (flat a))
section
variable {w0:World} {own0:Nat->Nat->Prop} {pl0:Aw} {g:Bp} {pl:Aw} {roots:List (Nat×Root)} {nx nc fix:Nat} {w:World}
structure Entered (w0:World) (own0:Nat->Nat->Prop) (pl0:Aw) (pl:Aw) (nx fix:Nat) (w:World) (vs:List V) (ws:List Value) (as:List Arg) (fl:List (M×C×D)) (rt:List (Nat×Root)) (g1:Bp) (pl1:Aw):Prop where
 hp:Hp w0 own0 pl0 g1 pl1 ((AU (Ew fl) nx).2.1++rt) (AU (Ew fl) nx).2.2 nx fix w
 agree:FO nx pl pl1
 rtlt:∀t x,get rt t=some x->t<nx
 ids:(EW (F5 fl nx (B7 vs as) as)).Nodup
 hand:(BJ (F5 fl nx (B7 vs as) as)).Nodup
 md:fl.map md=flat as
 bxs:∀x∈B7 vs as,x.1<nx/\∃cs,get rt x.1=some (.bx cs)/\get roots x.1=some (.bx cs)/\x.2.1+x.2.2<=cs.length
 blen:(B7 vs as).length=Ir as
 inn:Hp w (ES g1 (F5 fl nx (B7 vs as) as)) (Cd pl1 (F5 fl nx (B7 vs as) as)) (GY g1 (F5 fl nx (B7 vs as) as)) (Cd pl1 (F5 fl nx (B7 vs as) as)) (BX as).2.1 (BX as).2.2 (BX as).2.2 (C3 as) w
 good:∃us,Ai (CR pl nx) (fl.map (·.2.1)) us/\Ai (RF pl1 ((AU (Ew fl) nx).2.1++rt) (F5 fl nx (B7 vs as) as)) (Dm fl (AU (Ew fl) nx).1) us
 args:Ai (VR (Cd pl1 (F5 fl nx (B7 vs as) as)) (BX as).2.2) (BX as).1 ws
def bB:∀(a:List D) (n:Nat),((AU a n).2.1.map (·.1)).Nodup
 |[],n=>by simp[AU]
 |.lf v::l,n=>bB l n
 |.hole::l,n=>bB l n
 |.sl d c::l,n=>by
  simp only[AU,A2,E4];refine⟨λh=>?_,bB l (n+1)⟩;simp only[CC]at h;obtain⟨x,b,e⟩:=h;have:=((Iu l (n+1)).2 x b).1;omega
def cc:∀{j:List C}{roots f:List (Nat×Root)}{i:List D},Dd roots j=some (i,f)->∀r e,get roots r=some (.bx e)->get f r=some (.bx e)
 |[],roots,f,i,h,r,e,b=>by simp only[Dd,Ac,A5]at h;obtain⟨_,rfl⟩:=h;exact b
 |c::j,roots,f,i,h,r,e,b=>by
  simp only[Dd]at h;split at h
  .rename_i d n a;split at h
   .rename_i m o l;simp only[Ac,A5]at h;obtain⟨_,rfl⟩:=h;refine cc l r e ?_;unfold DZ at a;split at a
    .simp only[Ac,A5]at a;obtain⟨_,rfl⟩:=a;exact b
    .simp only[Ac,A5]at a;obtain⟨_,rfl⟩:=a;exact b
    .split at a
     .rename_i k;split at a
      .split at a
       .simp only[Ac,A5]at a;obtain⟨_,rfl⟩:=a;rw[So]
        .exact b
        rintro rfl;rw[b]at k;simp at k
       simp at a
      simp at a
     simp at a
    simp at a
   simp at h
  simp at h
def enter(h:Hp w0 own0 pl0 g pl roots nx nx fix w){i:List V}{ws:List Value}{c:List Arg}{f:List (M×C×D)}{O:List (Nat×Root)}(hv:Ai (VR pl nx) i ws)(hf:Ig roots i c=some f)
  (ht:Dd roots (j6 f)=some (Ew f,O)) (I:(BD f++(B7 i c).map (·.1)).Nodup) (hs:∀x∈f,WI O (BD f++(B7 i c).map (·.1)) x):
  ∃X G,Entered (roots:=roots) w0 own0 pl0 pl nx fix w i ws c f O X G:=by
 obtain⟨U,c1,T,a2,H⟩:=qN h (λ_ _ _=>rfl) i ws c f hv hf;obtain⟨X,G,J,P,a7,S⟩:=WO (j6 f) (N5 f U) roots (Ew f) O g pl nx h (sp c1) ht;have L:Jl G w c (B7 i c) U ws:=T.move λx d=>P _ _ (H x d).1;have a4:∀b o v,GU b o=some v->b<w.heap.size/\¬ES X (F5 f nx (B7 i c) c) b o/\w.cell? ⟨b,o,none⟩=some v:=λb o v hv=>by
  obtain⟨q1,q2,q3⟩:=J.fr.gl b o v hv;refine⟨CO q1 J.fr.size, ?_,J.fr.glb hv⟩;intro k;unfold ES GY at k;cases hg:X b o with
  |none=>rw[hg]at k;simp at k
  |some z=>
   rcases (J.lab b o z hg).2.1 with q|q
   .omega
   exact q2 q
 have a1:=L.len;have a6:=Iu (Ew f) nx;have hX:∀t,t<nx->get ((AU (Ew f) nx).2.1++O) t=get O t:=by
  intro t ht;rw[Ft,V6 (λx d=>by have:=(a6.2 x d).1;omega)]
 have Q:∀x∈BD f,x<nx:=by
  intro x d;obtain⟨p,s,lo,n,sz,es,hm⟩:=q9 d;obtain⟨_,_,_,b0,a8,hr,_⟩:=hs _ hm;exact S x _ hr
 have l:(Dm f (AU (Ew f) nx).1).map md=flat c:=by rw[Wt];exact a2
 have hF:C3 c=DL (flat c)+Ir c:=rfl;have R:(Bh (flat c) (0,C3 c)).2.2.1=DL (flat c):=by rw[iW];simp
 have a5:=(Nk (flat c) (0,C3 c)).2;have F:(BJ (F5 f nx (B7 i c) c))=FS (Dm f (AU (Ew f) nx).1)++(B7 i c).map (·.1):=by
  unfold F5;rw[h_,iB,iA]
 rw[ME]at I;have m:(BJ (F5 f nx (B7 i c) c)).Nodup:=by
  rw[F,ME];refine⟨OE I.1 Q,I.2.1, ?_⟩;rintro a ha b Z rfl;rcases Km ha with k|k
  .exact I.2.2 a k a Z rfl
  simp only[CC]at Z;obtain⟨x,d,rfl⟩:=Z;have:=(H x d).1;omega
 have u:∀x∈BJ (F5 f nx (B7 i c) c),x<nx->x∈BD f++(B7 i c).map (·.1):=by
  intro x d a9;rw[F,C7]at d;rcases d with d|d
  .rcases Km d with k|k
   .exact C7.2 (.inl k)
   omega
  exact C7.2 (.inr d)
 have K:∀x∈(H8 (Dm f (AU (Ew f) nx).1) (0,C3 c)).1,x.1<DL (flat c)\/(C3 c<=x.1/\x.1<(BX c).2.2):=by
  intro x d;have:=g9 d;rw[l]at this;unfold Mu at this;rcases this with k|k
  .rw[R]at k;exact .inl k.2
  exact .inr k
 have A:(EW (F5 f nx (B7 i c) c)).Nodup:=by
  have h1:=pf (Dm f (AU (Ew f) nx).1) (0,C3 c) (C3 c) (by rw[l,R,hF];omega) (AE _);have Y:=pc (B7 i c) (DL (flat c));unfold F5 EW at *
  rw[C2,ME];refine⟨h1,Y, ?_⟩;intro a ha b Z e;simp only[CC]at ha Z;obtain⟨x,d,rfl⟩:=ha;obtain⟨y,hy,rfl⟩:=Z;have t1:=K x d;have t2:=ZQ _ _ y hy;omega
 have a0:∀x∈B7 i c,∃W,get ((AU (Ew f) nx).2.1++O) x.1=some (.bx W)/\x.2.1+x.2.2<=W.length:=by
  intro x d;obtain⟨h1,W,Y,h3⟩:=H x d;exact⟨W,by rw[hX _ h1];exact cc ht _ _ Y,h3⟩
 have E:Ai (RF G ((AU (Ew f) nx).2.1++O) (F5 f nx (B7 i c) c)) (Dm f (AU (Ew f) nx).1) U:=by
  refine V7 (hand:=BD f++(B7 i c).map (·.1)) P hX S u f U nx c1 a7 ?_ hs;intro x d;have:=Ij (bB (Ew f) nx) d;rw[Ft,this]
 have a3:DL (flat c)<=(BX c).2.2:=by show _<=(Bh (flat c) (0,C3 c)).2.2.2;omega
 have j:=ph J A m (N:=(BX c).2.2) _ U (0,C3 c) E (λx d=>C7.2 (.inl d)) (by rw[l,R];exact a3) (by rw[l];exact AE _);rw[l]at j;have B:=ZS J A m (N:=(BX c).2.2) (G2 w (ES X (F5 f nx (B7 i c) c))) c (B7 i c) U ws _ (DL (flat c)) L j.1 (λx d=>C7.2 (.inr d)) a0 (by show _<=(Bh (flat c) (0,C3 c)).2.2.2;omega);refine⟨X,G,J,P,S,A,m,a2, ?_,a1,⟨Fr.refl _ _ a4, ?_,λ_ _ _=>rfl,a5,AE _, ?_⟩,⟨U,c1,E⟩,B.1⟩
 .intro x d;obtain⟨h1,W,Y,h3⟩:=H x d;exact⟨h1,W,cc ht _ _ Y,Y,h3⟩
 .intro b o x d;refine⟨?_,.inr (by unfold ES;rw[d];rfl), ?_⟩
  .unfold GY at d;simp only[AO]at d;obtain⟨y,hy,_⟩:=d;exact (J.lab b o y hy).1
  unfold GY at d;simp only[AO]at d;obtain⟨y,_,hy⟩:=d;obtain⟨e,he⟩:=qd hy;unfold F5 at he;rcases C7.1 he with k|k
  .have:=K _ k;simp only at this;omega
  have:=ZQ _ _ _ k;simp only at this;show _<(Bh (flat c) (0,C3 c)).2.2.2;omega
 intro r x d;have:=LX d;rcases C7.1 this with k|k
 .exact j.2 _ k
 exact B.2 _ k
end
end Go.Vs
namespace Go.Vs
variable [Glb]
def Sh(E:List (Nat×Ent))(a b:Nat)(y:Nat×Ao):Option (Nat×Ao):=
 if b<=y.1 then some (y.1-b+a,y.2) else match get E y.1 with
  |some (.tree r p)=>if r<a then some (r,p++y.2) else none
  |some (.box r c _)=>match y.2 with|[(0,j)]=>if r<a then some (r,[(0,c+j)]) else none|_=>none
  |_=>none
def Ho(c:Bp)(E:List (Nat×Ent))(a e:Nat)(d:Bp):Bp:=λb o=>
 match d b o with
 |some y=>Sh E a e y
 |none=>match c b o with
  |some z=>if (C8 E z).isSome=true\/a<=z.1 then none else some z
  |none=>none
def Fy(a b:Aw)(c d:Nat):Aw:=λr q=>if r<c then a r q else b (r-c+d) q
def SA:∀{E:List (Nat×Ent)}{id r:Nat}{p q:Ao},(BJ E).Nodup->(id,Ent.tree r p)∈E->¬p <+: q->C8 E (r,q)=none
 |[],_,_,_,_,_,h,_=>by simp at h
 |(k,e)::l,id,r,p,q,a,h,d=>by
  rcases AX.1 h with f|b
  .simp only[A5]at f;obtain⟨rfl,rfl⟩:=f;simp only[BJ,E4]at a;simp only[C8];rw[Ae (λk=>d k.2)];exact Ng a.1
  have g:=jK b;cases e with
  |tree i j=>
   simp only[BJ,E4]at a;simp only[C8];rw[Ae (λk=>a.1 (by rw[<-k.1];exact g))];exact SA a.2 b d
  |box i c k=>
   simp only[BJ,E4]at a;simp only[C8];split
   .rw[Ae (λk=>a.1 (by rw[<-k.1];exact g))];exact SA a.2 b d
   exact SA a.2 b d
  |read i j n m=>simp only[BJ]at a;simp only[C8];exact SA a b d
  |nil m=>simp only[BJ]at a;simp only[C8];exact SA a b d
def VA:∀{E:List (Nat×Ent)}{id r c k i:Nat},(BJ E).Nodup->(id,Ent.box r c k)∈E->¬(c<=i/\i<c+k)->C8 E (r,[(0,i)])=none
 |[],_,_,_,_,_,_,h,_=>by simp at h
 |(q,e)::l,id,r,c,k,i,a,h,d=>by
  rcases AX.1 h with f|b
  .simp only[A5]at f;obtain⟨rfl,rfl⟩:=f;simp only[BJ,E4]at a;simp only[C8];rw[Ae (λk=>d k.2)];exact Ng a.1
  have g:=jJ b;cases e with
  |tree j m=>
   simp only[BJ,E4]at a;simp only[C8];rw[Ae (λk=>a.1 (by rw[<-k.1];exact g))];exact VA a.2 b d
  |box j o p=>
   simp only[BJ,E4]at a;simp only[C8];rw[Ae (λk=>a.1 (by rw[<-k.1];exact g))];exact VA a.2 b d
  |read j m s n=>simp only[BJ]at a;simp only[C8];exact VA a b d
  |nil n=>simp only[BJ]at a;simp only[C8];exact VA a b d
section
variable {w0:World} {own0:Nat->Nat->Prop} {pl0:Aw} {g1 g2:Bp} {pl1 pl2:Aw} {X Y:List (Nat×Root)} {nA n0 fix nC n1 F nF:Nat} {w w':World} {E:List (Nat×Ent)}
def ey(f:Hp w0 own0 pl0 g1 pl1 X nA n0 fix w)(d:Hp w (ES g1 E) (Cd pl1 E) g2 pl2 Y nC n1 F w'){b o:Nat}{z:Nat×Ao}(c:g1 b o=some z)(e:C8 E z=none)(i:z.1<n0):
  Ho g1 E n0 n1 g2 b o=some z/\w'.cell? ⟨b,o,none⟩=w.cell? ⟨b,o,none⟩/\w'.frozen? ⟨b,o,none⟩=w.frozen? ⟨b,o,none⟩:=by
 have g:=(f.lab b o z c).1;have a:¬ES g1 E b o:=by unfold ES GY;rw[c,DF,e];simp
 refine⟨?_,d.fr.cell b o g a⟩;unfold Ho;cases h:g2 b o with
 |none=>simp only[c,e];rw[Ae];rintro (k|k);simp at k;omega
 |some y=>
  exfalso;rcases (d.lab b o y h).2.1 with k|k
  .omega
  exact a k
def xg(a:Hp w0 own0 pl0 g1 pl1 X nA n0 fix w){b o:Nat}(h:G2 w0 own0 b o):b<w.heap.size/\¬ES g1 E b o:=by
 refine⟨CO h.1 a.fr.size,λk=>?_⟩;unfold ES GY at k;cases c:g1 b o with
 |none=>rw[c]at k;simp at k
 |some z=>
  rcases (a.lab b o z c).2.1 with q|q
  .have:=h.1;omega
  exact h.2 q
def Kw{r:Nat}(h:r<n0)(q:Ao):Fy pl1 pl2 n0 n1 r q=pl1 r q:=by unfold Fy;rw[Af h]
def Wn{id:Nat}(h:n1<=id)(q:Ao):Fy pl1 pl2 n0 n1 (id-n1+n0) q=pl2 id q:=by unfold Fy;rw[Ae (by omega),show id-n1+n0-n0+n1=id by omega]
def Sf(a:n0<=nF){x:C}{v:Value}(h:CR pl1 n0 x v):CR (Fy pl1 pl2 n0 n1) nF x v:=(h.agree λr p b=>Kw b p).mono a
def ex(a:Hp w0 own0 pl0 g1 pl1 X nA n0 fix w)(d:Hp w (ES g1 E) (Cd pl1 E) g2 pl2 Y nC n1 F w')(i:n0<=nF){r:Nat}(e:r<n0)(k:r ∉ BJ E){x:Root}(l:get X r=some x):
  Er (G2 w0 own0) w' (Ho g1 E n0 n1 g2) (Fy pl1 pl2 n0 n1) nF r x:=by
 refine Keep.root' (w:=w) (g:=g1) (pl:=pl1) (nx:=n0) ⟨?_, ?_,λq=>Kw e q⟩ (λx v=>Sf i) (a.roots r x l).2
 .intro b o q j;exact ey a d j (Ng k) e
 intro b o c;obtain⟨f,h⟩:=xg (E:=E) a c;exact (d.fr.cell b o f h).1
def n9(g:Hp w (ES g1 E) (Cd pl1 E) g2 pl2 Y nC n1 F w'){id f:Nat}{e:List (List D)}(d:n1<=id)(k:get Y id=some (.tr f e))(l:Nat->Nat->Prop):
  Er l w' (Ho g1 E n0 n1 g2) (Fy pl1 pl2 n0 n1) nF (id-n1+n0) (.tr f e):=by
 intro q m j;obtain⟨a,b⟩:=(g.roots id _ k).2 q m j;refine⟨a.move (Wn d q) (λi c _ _ _ _=>Wn d _) λ_ _=>rfl,b.move (Wn d q) λb o h=>⟨?_,λz=>z,rfl⟩⟩;unfold Ho Sh;rw[h];simp[d]
def xf(B:Hp w0 own0 pl0 g1 pl1 X nA n0 fix w)(x:Hp w (ES g1 E) (Cd pl1 E) g2 pl2 Y nC n1 F w')(Q:(EW E).Nodup)(O:(BJ E).Nodup)(N:F<=n1){id r:Nat}{p:Ao}(C:(id,Ent.tree r p)∈E)(y:id<F)(g:r<n0)
  {t:Nat} {k:List (List D)} (U:get X r=some (.tr t k)) {H:Nat} {A d:List (List D)} (R:AH t k p=some (H,A)) (V:get Y id=some (.tr H d)) (P:d.length=A.length) (Z:Nat->Nat->Prop):
  Er Z w' (Ho g1 E n0 n1 g2) (Fy pl1 pl2 n0 n1) nF r (.tr t (EL k p λ_=>d)):=by
 have G:=Ij Q C;have s:∀q,pl2 id q=pl1 r (p++q):=λq=>by rw[x.fixed id q y];unfold Cd;rw[G]
 intro q m S;rcases dF (f:=λ_=>d) R P q m S with ⟨W,rfl,h⟩|⟨u,J,K,L,M⟩
 .obtain⟨a,b⟩:=(x.roots id _ V).2 W m h;refine⟨a.move (by rw[Kw g,s]) (λi c _ _ _ _=>by rw[Kw g,s,EG]) λ_ _=>rfl,b.move (by rw[Kw g,s]) λb o l=>⟨?_,λz=>z,rfl⟩⟩;unfold Ho Sh;rw[l];simp only;rw[Ae (by omega),G];simp[g]
 obtain⟨a,b⟩:=(B.roots r _ U).2 q u J;have n:=SA O C K;have e:∀b o,g1 b o=some (r,q)->Ho g1 E n0 n1 g2 b o=some (r,q)/\w'.cell? ⟨b,o,none⟩=w.cell? ⟨b,o,none⟩/\w'.frozen? ⟨b,o,none⟩=w.frozen? ⟨b,o,none⟩:=λb o l=>ey B x l n g;have I:NodeC w' (Fy pl1 pl2 n0 n1) r q u.1 u.2:=a.move (Kw g q) (λi c _ _ _ _=>Kw g _) λj hj=>by
  have:=HQ u.1 a.le;exact (e _ _ (b j (by rw[a.szp];omega)).1).2.1
 refine⟨?_,b.move (Kw g q) λb o l=>⟨(e b o l).1,λ⟨v,T⟩=>⟨v,by rw[(e b o l).2.1];exact T⟩,(e b o l).2.2⟩⟩;rw[L];exact I.sim M
def xe(J:Hp w0 own0 pl0 g1 pl1 X nA n0 fix w)(u:Hp w (ES g1 E) (Cd pl1 E) g2 pl2 Y nC n1 F w')(P:n0<=nF)(T:(EW E).Nodup)(S:(BJ E).Nodup)(Q:F<=n1){id r c k:Nat}(K:(id,Ent.box r c k)∈E)(A:id<F)(q:r<n0)
  {g:List C} (U:get X r=some (.bx g)) (R:c+k<=g.length) {s H:List C} (V:get Y id=some (.bx s)) (W:s.length=k) (G:H.length=k)
  (Z:∀(j:Nat) (y z:C) (v:Value),s[j]?= some y->H[j]?= some z->w'.cell? ⟨(pl1 r []).b,(pl1 r []).off+(c+j),none⟩=some v->CR pl2 n1 y v->CR (Fy pl1 pl2 n0 n1) nF z v) (st:Nat->Nat->Prop):
  Er st w' (Ho g1 E n0 n1 g2) (Fy pl1 pl2 n0 n1) nF r (.bx (g.take c++(H++g.drop (c+k)))):=by
 have L:=Ij T K;have B:pl2 id []=⟨false,(pl1 r []).b,(pl1 r []).off+c,0,1,none⟩:=by rw[u.fixed id [] A];unfold Cd;rw[L]
 have n:∀(i:Nat) (x:C),¬(c<=i/\i<c+k)->g[i]?= some x->∃v,w'.cell? ⟨(Fy pl1 pl2 n0 n1 r []).b,(Fy pl1 pl2 n0 n1 r []).off+i,none⟩=some v/\CR (Fy pl1 pl2 n0 n1) nF x v/\Ho g1 E n0 n1 g2 (Fy pl1 pl2 n0 n1 r []).b ((Fy pl1 pl2 n0 n1 r []).off+i)=some (r,[(0,i)])/\w'.frozen? ⟨(Fy pl1 pl2 n0 n1 r []).b,(Fy pl1 pl2 n0 n1 r []).off+i,none⟩=false:=by
  intro i x e D;obtain⟨v,t,I,N,O⟩:=(J.roots r _ U).2 i x D;obtain⟨a,b,d⟩:=ey J u N (VA S K e) q;rw[Kw q];exact⟨v,by rw[b];exact t,Sf P I,a,by rw[d];exact O⟩
 intro i x e;by_cases t:i<c
 .rw[E3 (by simp;omega),EM,Af t]at e;exact n i x (by omega) e
 rw[Dh (by simp;omega)]at e;have l:(g.take c).length=c:=by simp;omega
 rw[l]at e;by_cases I:i<c+k
 .rw[E3 (by omega)]at e;obtain⟨y,m⟩:∃y,s[i-c]?= some y:=⟨_,BW (by omega)⟩;obtain⟨v,h,M,o,p⟩:=(u.roots id _ V).2 (i-c) y m;rw[B]at h o p;simp only[FQ]at h o p;rw[Kw q];have f:c+(i-c)=i:=by omega
  refine⟨v,by rw[f]at h;exact h,Z (i-c) y x v m e h M, ?_,by rw[f]at p;exact p⟩;rw[f]at o;unfold Ho Sh;rw[o];simp only;rw[Ae (by omega),L];simp[q,f]
 rw[Dh (by omega),F2,G,show c+k+(i-c-k)=i by omega]at e;exact n i x (by omega) e
def ew(f:Hp w0 own0 pl0 g1 pl1 X nA n0 fix w)(g:Hp w (ES g1 E) (Cd pl1 E) g2 pl2 Y nC n1 F w')(I:n0<=nF)(t:∀id,n1<=id->id<nC->id-n1+n0<nF)(v:fix<=n0){R:List (Nat×Root)}
  (C:∀r x,get R r=some x->r<nF/\Er (G2 w0 own0) w' (Ho g1 E n0 n1 g2) (Fy pl1 pl2 n0 n1) nF r x):
  Hp w0 own0 pl0 (Ho g1 E n0 n1 g2) (Fy pl1 pl2 n0 n1) R nF nF fix w':=by
 have own:∀b o,ES g1 E b o->b<w.heap.size/\(w0.heap.size<=b\/own0 b o):=by
  intro b o k;unfold ES GY at k;cases A:g1 b o with
  |none=>rw[A]at k;simp at k
  |some z=>have:=f.lab b o z A;exact⟨this.1,this.2.1⟩
 refine⟨⟨?_, ?_, ?_, ?_, ?_, ?_,f.fr.gl⟩, ?_, ?_,by omega,AE _,C⟩
 .exact g.fr.os.trans f.fr.os
 .exact g.fr.tape.trans f.fr.tape
 .exact g.fr.output.trans f.fr.output
 .exact CW f.fr.size g.fr.size
 .intro b i l;have h:=CO i f.fr.size;rw[g.fr.block b h λo k=>?_,f.fr.block b i l];rcases (own b o k).2 with q|q
  .omega
  exact l o q
 .intro b o i l;have h:=CO i f.fr.size;have j:¬ES g1 E b o:=λk=>by
   rcases (own b o k).2 with q|q
   .omega
   exact l q
  obtain⟨a,B⟩:=g.fr.cell b o h j;obtain⟨c,d⟩:=f.fr.cell b o i l;exact⟨a.trans c,B.trans d⟩
 .intro b o x e;unfold Ho at e;split at e
  .rename_i y G;obtain⟨m,n,u⟩:=g.lab b o y G;refine⟨m, ?_, ?_⟩
   .rcases n with k|k
    .exact .inl (CW f.fr.size k)
    exact (own b o k).2
   unfold Sh at e;split at e
   .rename_i s;simp only[Ac]at e;subst e;exact t _ s u
   split at e
   .split at e
    .simp only[Ac]at e;subst e;simp only;omega
    simp at e
   .split at e
    .split at e
     .simp only[Ac]at e;subst e;simp only;omega
     simp at e
    simp at e
   simp at e
  split at e
  .rename_i z H;split at e
   .simp at e
   rename_i j;simp only[Ac]at e;subst e;obtain⟨m,n,u⟩:=f.lab b o _ H;exact⟨CO m g.fr.size,n,by omega⟩
  simp at e
 intro r p D;rw[Kw (by omega)];exact f.fixed r p D
end
end Go.Vs
namespace Go.Vs
variable [Glb]
def Wf:∀(c:List D) (a b:Nat) (r:Nat) (x:Root),get (AU c a).2.1 r=some x->a<=r/\get (AU c b).2.1 (r-a+b)=some x/\∃f d,x=.tr f d
 |[],a,b,r,x,h=>by simp[AU,get]at h
 |.lf v::l,a,b,r,x,h=>Wf l a b r x h
 |.hole::l,a,b,r,x,h=>Wf l a b r x h
 |.sl f d::l,a,b,r,x,h=>by
  simp only[AU,get]at h ⊢;split at h
  .rename_i e;subst e;simp only[Ac]at h;subst h;exact⟨AE _,by rw[Af (by omega)],_,_,rfl⟩
  obtain⟨j,g,i⟩:=Wf l (a+1) (b+1) r x h;refine⟨by omega, ?_,i⟩;rw[Ae (by omega)];rw[show r-a+b=r-(a+1)+(b+1) by omega];exact g
def We{pl1 pl2:Aw}{n0 n1 f g:Nat}(a:∀id,n1<=id->id<f->id-n1+n0<g):∀(c:List D) (b:List Value) (j:Nat),Ai (CR pl2 f) (AU c (n1+j)).1 b->Ai (CR (Fy pl1 pl2 n0 n1) g) (AU c (n0+j)).1 b
 |[],[],_,_=>trivial
 |[],_::_,_,h=>h.elim
 |.lf v::l,[],_,h=>h.elim
 |.hole::l,[],_,h=>h.elim
 |.sl m i::l,[],_,h=>h.elim
 |.lf v::l,u::b,j,h=>⟨h.1,We a l b j h.2⟩
 |.hole::l,u::b,j,h=>⟨h.1,We a l b j h.2⟩
 |.sl m i::l,u::b,j,h=>by
  simp only[AU]at h ⊢;obtain⟨d,k⟩:=h;have e:n0+j=n1+j-n1+n0:=by omega
  refine⟨⟨?_, ?_⟩,We a l b (j+1) k⟩
  .rw[e];exact a _ (by omega) d.1
  rw[e,Wn (by omega)];exact d.2
def sJ(c:List D):∀(a b:Nat),(AU c a).2.2-a=(AU c b).2.2-b:=by
 induction c with
 |nil=>intro a b;simp[AU]
 |cons d c e=>
  intro a b;cases d with
  |lf v=>exact e a b
  |hole=>exact e a b
  |sl i f=>
   have:=e (a+1) (b+1);have g:=(Iu c (a+1)).1;have h:=(Iu c (b+1)).1;simp only[AU];omega
def WJ(x:A):Bool×Nat:=((DX x).1,(DX x).2.length)
def yC{pl:Aw}{i:Nat}{x:A}{v:Value}(h:AR pl i x v):∃f,Ai (CR pl i) (DX x).2 f/\∀(b:Aw) (a:Nat) (d:List C),d.length=(DX x).2.length->Ai (CR b a) d f->AR b a (Js (DX x).1 d) v:=by
 cases x with
 |c c=>
  refine⟨[v],⟨h,trivial⟩,λb a d g e=>?_⟩
  match d,g,e with
  |[y],_,e=>exact e.1
 |ag k=>
  obtain⟨f,rfl,j⟩:=h;exact⟨f,j,λb a d g e=>⟨f,rfl,e⟩⟩
def f_{pl:Aw}{nx:Nat}:∀{xs:List A}{vs:List Value},Ai (AR pl nx) xs vs->∃n,Ai (CR pl nx) (xs.flatMap λx=>(DX x).2) n/\∀(b:Aw) (a:Nat) (c:List (Bool×List D)) (g:List C) (more:List Value),xs.map WJ=c.map (λx=>(x.1,x.2.length))->Ai (CR b a) g (n++more)->Ai (AR b a) (FU c g) vs
 |[],[],_=>⟨[],trivial,λb a c g more e f=>by
   cases c with
   |nil=>trivial
   |cons o c=>simp at e⟩
 |[],_::_,h=>h.elim
 |_::_,[],h=>h.elim
 |x::xs,v::vs,h=>by
  obtain⟨m,l,s⟩:=yC h.1;obtain⟨w,r,u⟩:=f_ h.2;refine⟨m++w,by rw[DM];exact Ai.append l r,λb a c g more e f=>?_⟩;cases c with
  |nil=>simp at e
  |cons o c=>
   obtain⟨ag,i⟩:=o;simp only[A2,List.cons.injEq,WJ,A5]at e;obtain⟨⟨p,k⟩,q⟩:=e;have d:m.length=i.length:=by rw[<-l.length,k]
   rw[EG]at f;have t:=Ai.take i.length f;have j:=Ai.drop i.length f;rw[MF d]at t;rw[KI d]at j;simp only[FU];refine⟨?_,u b a c _ more (by rw[<-q]) j⟩;rw[<-p];exact s b a _ (by rw[t.length,d,k]) t
def t6{pl:Aw}{o:Nat}{x:V}{v:Value}{p:List A}(g:Kh x=some p)(h:VR pl o x v):∃m,Ai (CR pl o) (p.flatMap λx=>(DX x).2) m/\∀(e:Aw) (d:Nat) (k:List (Bool×List D)) (l:List C) (more:List Value),p.map WJ=k.map (λx=>(x.1,x.2.length))->Ai (CR e d) l (m++more)->VR e d (Ey (FU k l)) v:=by
 unfold Kh at g;split at g
 .simp only[Ac]at g;subst g;obtain⟨m,r,s⟩:=f_ (pl:=pl) (nx:=o) (xs:=[_]) (vs:=[v]) ⟨h,trivial⟩;refine⟨m,r,λe d k l more t u=>?_⟩;have:=s e d k l more t u
  match H:FU k l,this with
  |[y],this=>exact this.1
 .simp at g
 .rename_i E i;simp only[Ac]at g;subst g;obtain⟨n,rfl,F⟩:=h;obtain⟨m,r,s⟩:=f_ F;refine⟨m,r,λe d k l more t u=>?_⟩;have:=s e d k l more t u;have G:=this.length;have f:=F.length;have B:∀q:List A,Ai (AR e d) q n->VR e d (Ey q) (.tuple n.toArray):=by
   intro q j
   match q,j with
   |[],j=>exact⟨n,rfl,j⟩
   |[z],j=>
    exfalso;have w:=j.length;simp only[Aq,Ay]at w
    match E,f,i with
    |[a],_,i=>exact i a rfl
    |[],f,_=>simp only[Ay]at f;omega
    |a::b::c,f,_=>simp only[Aq]at f;omega
   |a::b::c,j=>exact⟨n,rfl,j⟩
  exact B _ this
 simp at g
def HT(R c:C->Value->Prop):List (M×D)->List C->List C->Prop
 |x::l,a::d,b::e=>(EK x=true->∀v,R b v->c a v)/\HT R c l d e
 |[],[],[]=>True
 |_,_,_=>False
def HT.split{R f:C->Value->Prop}:∀{l e:List (M×D)}{a c:List C}{d:List C},a.length=l.length->HT R f (l++e) (a++c) d->HT R f l a (d.take l.length)/\HT R f e c (d.drop l.length)
 |[],e,[],c,d,_,h=>⟨trivial,h⟩
 |x::l,e,y::a,c,z::d,b,h=>by
  obtain⟨g,i⟩:=HT.split (l:=l) (a:=a) (by simpa using b) h.2;exact⟨⟨h.1,g⟩,i⟩
 |x::l,e,y::a,c,[],b,h=>h.elim
 |[],_,_::_,_,_,b,_=>by simp at b
 |_::_,_,[],_,_,b,_=>by simp at b
def jL{R k:C->Value->Prop}:∀{l:List (M×D)}{m n o c:List C}{i:List Value},IV l n o->Ai R o i->HT R k l m n->Ai k c (EZ l i)->Ai k (G9 l m c) i
 |[],[],[],[],c,[],_,_,_,_=>by simp[G9,Ai]
 |x::l,a::m,b::n,y::o,c,v::i,g,h,d,f=>by
  simp only[G9];simp only[EZ]at f;cases j:EK x with
  |true=>
   rw[j]at f;simp only[BF]at f ⊢;have e:=g.1 j;refine⟨d.1 j v (by rw[<-e];exact h.1),jL g.2 h.2 d.2 f⟩
  |false=>
   rw[j]at f;simp only[C6,BC]at f ⊢
   match c,f with
   |z::c,f=>exact⟨f.1,jL g.2 h.2 d.2 f.2⟩
 |[],_::_,_,_,_,_,_,_,d,_=>d.elim
 |[],[],_::_,_,_,_,_,_,d,_=>d.elim
 |[],[],[],_::_,_,_,g,_,_,_=>g.elim
 |[],[],[],[],_,_::_,_,h,_,_=>h.elim
 |_::_,[],_,_,_,_,_,_,d,_=>d.elim
 |_::_,_::_,[],_,_,_,_,_,d,_=>d.elim
 |_::_,_::_,_::_,[],_,_,g,_,_,_=>g.elim
 |_::_,_::_,_::_,_::_,_,[],_,h,_,_=>h.elim
def sg{α β:Type}{R:α->β->Prop}:∀{l:List (M×D)}{c:List α}{d:List β},Ai R c d->(EZ l c).length=(EZ l d).length
 |[],_,_,_=>by simp[EZ]
 |_::_,[],[],_=>rfl
 |x::l,a::c,b::d,h=>by
  simp only[EZ];cases EK x<;>simp[sg (l:=l) h.2]
 |_::_,[],_::_,h=>h.elim
 |_::_,_::_,[],h=>h.elim
def j9{R:C->Value->Prop}:∀{l:List (M×D)}{c:List C}{d:List Value},Ai R c d->Ai R (EZ l c) (EZ l d)
 |[],_,_,_=>by simp[EZ,Ai]
 |_::_,[],[],_=>trivial
 |x::l,a::c,b::d,h=>by
  simp only[EZ];cases EK x
  .exact⟨h.1,j9 h.2⟩
  exact j9 h.2
 |_::_,[],_::_,h=>h.elim
 |_::_,_::_,[],h=>h.elim
end Go.Vs
namespace Go.Vs
variable [Glb]
section
variable {w0:World} {own0:Nat->Nat->Prop} {pl0:Aw} {g1 g2:Bp} {pl1 pl2:Aw} {X Y:List (Nat×Root)} {nA n0 fix nC n1 F nF:Nat} {w w':World} {E:List (Nat×Ent)}
def ts(L:(EW E).Nodup)(g:∀id q,id<F->pl2 id q=Cd pl1 E id q)(V:n0<=nF):∀(a:List (M×C×D)) (O:List Value) (k:Kk),Ai (RF pl1 X E) a O->(∀x∈a,∀r p s f n,x.2.1=.rf r p s f n->x.1=.rx->r<n0)->(∀x∈(H8 a k).1,x∈E)->(Bh (a.map md) k).2.2.1<=F ->
  HT (CR pl2 n1) (CR (Fy pl1 pl2 n0 n1) nF) (a.map md) (a.map (·.2.1)) (Bh (a.map md) k).1
 |[],[],_,_,_,_,_=>trivial
 |[],_::_,_,j,_,_,_=>j.elim
 |_::_,[],_,j,_,_,_=>j.elim
 |(m,c,d)::a,u::O,k,j,Q,y,I=>by
  simp only[A2,md,Bh]at I ⊢;have u2:=Nk (a.map md) (BY m d k).2.2;simp only[H8,C7]at y;refine⟨?_,ts L g V a O (BY m d k).2.2 j.2 (λx N=>Q x (by simp[N])) (λx N=>y x (.inr (by rw[O4];exact N))) I⟩;intro e v R;cases d with
  |lf v'=>cases m<;>simp[EK]at e
  |hole=>cases m<;>simp[EK]at e
  |sl h U=>
   cases m with
   |io=>simp[EK]at e
   |ow=>simp[EK]at e
   |rd=>simp[EK]at e
   |rx=>
    simp only[BY]at R I;have H:k.1<F:=by have:=(Nk (a.map md) (k.1+1,k.2)).1;simp only at this;omega
    obtain⟨_,t⟩:=R;rw[g _ _ H]at t;rcases j.1 with ⟨rfl,rfl,rfl⟩|⟨r,p,f,n,rfl,G,B⟩
    .have i:=y (k.1,.nil h) (.inl (by simp[FI,ND]));rw[show Cd pl1 E k.1 []=⟨true,0,0,0,h,none⟩ by unfold Cd;rw[Ij L i]]at t;obtain⟨_,_,_,A,rfl,z⟩:=t;show Value.slice A 0 (0-0)=_;rw[z (.inr rfl)];rfl
    have i:=y (k.1,.read r p f h) (.inl (by simp[FI,ND]));rw[show Cd pl1 E k.1 []=⟨(pl1 r p).nil,(pl1 r p).b,(pl1 r p).off+f*h,(pl1 r p).cap-f,h,(pl1 r p).raw⟩ by unfold Cd;rw[Ij L i]]at t;have K:=Q (.rx,.rf r p h f n,.sl h U) B5 r p h f n rfl rfl;refine⟨by omega, ?_⟩;rw[Kw K];rcases B with ⟨_,W,_,l,hl,J,rfl⟩|⟨Z,_⟩
    .obtain⟨P,S,T,_⟩:=G;obtain⟨_,_,_,A,rfl,z⟩:=t;have o:((l.drop f).take n).length=n:=by
      have:f+n<=l.length:=J;simp;omega
     rw[o];refine⟨P,S,T,A,by simp,λhh=>?_⟩;rw[z (.inr rfl),P];simp
    simp at Z
def Zj{Q:Nat->Root->Prop}{roots0:List (Nat×Root)}:∀(g:List (M×C×D)) (k:Kk) (f:List (Nat×Root)) (o:List (Nat×List (List D))) (B:List (Nat×Root)),CG f g o=some B->(BD g).Nodup->(∀r∈BD g,get f r=get roots0 r) ->
  (∀x∈(H8 g k).1,x∈E)->Ai (λ(x:Nat×Nat×Nat) (o:Nat×List (List D))=>get Y x.1=some (.tr o.1 o.2)/\o.1=x.2.1/\o.2.length=x.2.2) (Il (g.map md) k.1) o->(Bh (g.map md) k).2.2.1<=F ->
  (∀(id r:Nat) (p:Ao) (s K n y:Nat) (j:List (List D)),(M.io,C.rf r p s K n,D.sl y j)∈g->(id,Ent.tree r p)∈E->id<F->∀q,get Y id=some (.tr y q)->q.length=j.length->∀G z,get roots0 r=some (.tr G z)->Q r (.tr G (EL z p λ_=>q))) ->
  (∀r x,get f r=some x->r ∉ BD g->Q r x)->(∀r x,get B r=some x->Q r x)/\(∀r,r ∉ BD g->get B r=get f r)
 |[],k,f,[],B,h,_,_,_,_,_,_,L=>by
  simp only[CG,Ac]at h;subst h;exact⟨λr x u=>L r x u (by simp[BD]),λ_ _=>rfl⟩
 |[],k,f,_::_,B,h,_,_,_,_,_,_,_=>by simp[CG]at h
 |(m,c,d)::g,k,f,o,B,h,l,N,hE,J,hk,H,L=>by
  have I:(Bh (g.map md) (BY m d k).2.2).2.2.1<=F:=hk;have T:=(Nk (g.map md) (BY m d k).2.2).1;have A:=hE;simp only[H8,C7]at A;have skip:CG f ((m,c,d)::g) o=CG f g o->BD ((m,c,d)::g)=BD g->Il (((m,c,d)::g).map md) k.1=Il (g.map md) (BY m d k).2.2.1->(∀r x,get B r=some x->Q r x)/\(∀r,r ∉ BD ((m,c,d)::g)->get B r=get f r):=by
   intro Z e2 R;rw[Z]at h;rw[e2]at l N L ⊢;rw[R]at J;exact Zj g (BY m d k).2.2 f o B h l N (λx u=>A x (.inr (by rw[O4];exact u))) J I (λid r p s K n y j P=>H id r p s K n y j (by simp[P])) L
  cases m with
  |rd=>cases d<;>exact skip (by cases o<;>simp[CG]) rfl rfl
  |ow=>cases d<;>exact skip (by cases o<;>simp[CG]) rfl rfl
  |rx=>cases d<;>exact skip (by cases o<;>simp[CG]) rfl rfl
  |io=>
   cases d with
   |lf v=>exact skip (by cases o<;>cases c<;>simp[CG]) (by cases c<;>rfl) rfl
   |hole=>exact skip (by cases o<;>cases c<;>simp[CG]) (by cases c<;>rfl) rfl
   |sl y j=>
    have R:Il (((M.io,c,D.sl y j)::g).map md) k.1=(k.1,y,j.length)::Il (g.map md) (BY .io (.sl y j) k).2.2.1:=rfl;rw[R]at J
    match o,J with
    |(U,q)::o,J=>
     obtain⟨⟨g1,g2,V⟩,J⟩:=J;simp only at g1 g2 V;subst g2;cases c with
     |nl s=>
      simp only[CG]at h;simp only[BD]at l N L ⊢;exact Zj g (BY .io (.sl U j) k).2.2 f o B h l N (λx u=>A x (.inr (by rw[O4];exact u))) J I (λid r p s K n y j P=>H id r p s K n y j (by simp[P])) L
     |rf r p s K n=>
      simp only[CG]at h;simp only[BD,E4,AX,not_or]at l N L ⊢;split at h
      .rename_i G z hr;have S:Q r (.tr G (EL z p λ_=>q)):=by
        refine H k.1 r p s K n U j (by simp) (A _ (.inl (by simp[FI,Pg]))) (by simp only[BY]at T I;omega) q g1 V G z ?_;rw[<-N r (.inl rfl)];exact hr
       obtain⟨a,b⟩:=Zj (Q:=Q) (roots0:=roots0) g (BY .io (.sl U j) k).2.2 _ o B h l.2 (λt O=>by
        rw[Bn,Ae (λe=>l.1 (by rw[e];exact O))];exact N t (.inr O)) (λx u=>A x (.inr (by rw[O4];exact u))) J I (λid r p s K n y j P=>H id r p s K n y j (by simp[P])) (λt x u O=>by
         rw[Bn]at u;split at u
         .rename_i e;subst e;simp only[Ac]at u;subst u;exact S
         .rename_i e;exact L t x u ⟨λW=>e W.symm,O⟩)
       exact⟨a,λt O=>by rw[b t O.2,Bn,Ae (λe=>O.1 e.symm)]⟩
      simp at h
     |lf v=>simp[CG]at h
     |un=>simp[CG]at h
     |pe r p i c=>simp[CG]at h
     |pb r c=>simp[CG]at h
def eu{R R':C->Value->Prop}{Q:Nat->Root->Prop}{roots0:List (Nat×Root)}:∀(s:List V) (i:List Arg) (W:List (M×C×D)) (J:List C) (o:List (List D)) (I:List C) (B N:List (Nat×Root)) (f:List (List C)) (k:List (List Value)),
  Ig roots0 s i=some W->HT R R' (flat i) (W.map (·.2.1)) J->Ai (λx I=>IV x.1 x.2 I) (Ds i J) f->Ai (Ai R) f k ->
  Ai R' I (((Ds i J).zip k).flatMap λx=>EZ x.1.1 x.2)->((Ds i J).zip f).map (λx=>(EZ x.1.1 x.2).length)=o.map (·.length) ->
  HW B s i o I=some N->((B7 s i).map (·.1)).Nodup->(∀x∈B7 s i,get B x.1=get roots0 x.1) ->
  (∀(j:Nat) (x:Nat×Nat×Nat) (T:List C) (O:List Value) (zs:List C),(B7 s i)[j]?= some x->f[j]?= some T->k[j]?= some O->Ai R' zs O->T.length=x.2.2->∀K,get roots0 x.1=some (.bx K)->Q x.1 (.bx (K.take x.2.1++(zs++K.drop (x.2.1+x.2.2))))) ->
  (∀r x,get B r=some x->r ∉ (B7 s i).map (·.1)->Q r x)->∀r x,get N r=some x->Q r x
 |[],[],W,J,o,I,B,N,f,k,_,_,_,_,_,_,G,_,_,_,S=>by
  have:N=B:=by simp only[HW,Ac]at G;exact G.symm
  subst this;exact λr x H=>S r x H (by simp[B7])
 |[],_::_,_,_,_,_,_,_,_,_,p,_,_,_,_,_,_,_,_,_,_=>by simp[Ig]at p
 |_::_,[],_,_,_,_,_,_,_,_,p,_,_,_,_,_,_,_,_,_,_=>by simp[Ig]at p
 |v::s,.val ag l::i,W,J,o,I,B,N,f,k,p,A,m,n,z,d,G,y,U,u,S=>by
  simp only[Ig]at p;split at p
  .rename_i fa fb q P;simp only[Ac]at p;subst p;have hz:∃K,K7 K l=some fa:=by
    unfold OA at q;split at q
    .rename_i g;cases g;exact⟨_,q⟩
    .rename_i g;cases g;exact⟨_,q⟩
    .rename_i g;cases g
    simp at q
   obtain⟨K,hz⟩:=hz;obtain⟨e1,e2⟩:=TG hz;have hh:B7 (v::s) (.val ag l::i)=B7 s i:=by
    simp only[B7]
   rw[hh]at y U u S;have a2:HW B (v::s) (.val ag l::i) o I=HW B s i o I:=by
    simp only[HW]
   rw[a2]at G;rw[C2,show flat (.val ag l::i)=l++flat i from rfl]at A;have:=(A.split (by rw[<-e2];simp)).2;exact eu s i fb (J.drop l.length) o I B N f k P this m n z d G y U u S
  simp at p
 |v::s,.ptr l::i,W,J,o,I,B,N,f,k,p,A,m,n,z,d,G,y,U,u,S=>by
  simp only[Ig]at p;split at p
  .rename_i fa fb q P;simp only[Ac]at p;subst p;unfold OA at q;split at q
   .rename_i g;cases g
   .rename_i g;cases g
   .rename_i r c l' g;cases g;split at q
    .rename_i K hr;split at q
     .rename_i a5;obtain⟨e1,e2⟩:=TG q;simp only[Ds]at m z d
      match f,m with
      |T::f,m=>
       match k,n with
       |O::k,n=>
        simp only[Jf,DM,A2]at z d
        match o,d with
        |ds::o,d=>
         simp only[A2,List.cons.injEq]at d;rw[C2,show flat (.ptr l::i)=l++flat i from rfl]at A;obtain⟨L,a1⟩:=A.split (by rw[<-e2];simp);rw[e1]at L;have Z:(EZ l O).length=ds.length:=by rw[<-sg n.1];exact d.1
         have t:=Ai.take ds.length z;have dd:=Ai.drop ds.length z;rw[MF Z]at t;rw[KI Z]at dd;have a0:=jL m.1 n.1 L t;simp only[B7,A2,E4]at y U u S;have a3:get B r=some (.bx K):=by rw[U (r,c,l.length) (by simp)];exact hr
         simp only[HW]at G;rw[a3]at G;simp only at G;have a4:T.length=l.length:=by
          have:∀(l:List (M×D)) (a b:List C),IV l a b->b.length=l.length:=by
           intro l
           induction l with
           |nil=>intro a b h;cases a<;>cases b<;>first|rfl|exact h.elim
           |cons x l ih=>intro a b h;cases a<;>cases b<;>first|exact h.elim|(simp;exact ih _ _ h.2)
          exact this _ _ _ m.1
         have hQ:=u 0 (r,c,l.length) T O _ rfl rfl rfl a0 a4 K hr;refine eu s i fb (J.drop l.length) o _ _ N f k P a1 m.2 n.2 dd d.2 G y.2 (λx H=>?_) (λj x T O zs h1 h2 h3=>u (j+1) x T O zs (by simpa using h1) (by simpa using h2) (by simpa using h3)) (λt x H ht=>?_)
         .rw[Bn,Ae (λe=>y.1 (by rw[e];exact Ym H))];exact U x (by simp[H])
         rw[Bn]at H;split at H
         .rename_i e;subst e;simp only[Ac]at H;subst H;exact hQ
         rename_i e;exact S t x H (by simp only[AX,not_or];exact⟨λe'=>e e'.symm,ht⟩)
     simp at q
    simp at q
   simp at q
  simp at p
end
end Go.Vs
namespace Go.Vs
variable [Glb]
def MU:∀(e:List (M×C×D)) (b:List C) (a:List (Nat×Root)) (o:List (Nat×List (List D))),CG a (Dm e b) o=CG a e o
 |[],_,_,_=>rfl
 |(m,c,d)::l,b,a,o=>by
  cases m with
  |ow=>
   cases b with
   |nil=>simp only[Dm];cases o<;>simp only[CG]<;>exact MU l _ _ _
   |cons y b=>simp only[Dm];cases o<;>simp only[CG]<;>exact MU l _ _ _
  |rd=>rw[Kx (by simp)];cases o<;>simp only[CG]<;>exact MU l _ _ _
  |rx=>rw[Kx (by simp)];cases o<;>simp only[CG]<;>exact MU l _ _ _
  |io=>
   rw[Kx (by simp)];cases d with
   |lf v=>cases o<;>cases c<;>simp only[CG]<;>exact MU l _ _ _
   |hole=>cases o<;>cases c<;>simp only[CG]<;>exact MU l _ _ _
   |sl k h=>
    cases o with
    |nil=>cases c<;>simp only[CG]
    |cons x o=>
     obtain⟨s,f⟩:=x;cases c with
     |rf r p g j n=>simp only[CG];split<;>first|exact MU l _ _ _|rfl
     |nl g=>simp only[CG];exact MU l _ _ _
     |lf v=>simp only[CG]
     |un=>simp only[CG]
     |pe r p i c=>simp only[CG]
     |pb r c=>simp only[CG]
def OF:∀(b:List (M×C×D)) (a:List C),BD (Dm b a)=BD b
 |[],_=>rfl
 |(m,c,d)::l,a=>by
  cases m with
  |ow=>
   cases a with
   |nil=>simp only[Dm,BD];exact OF l _
   |cons y a=>simp only[Dm,BD];exact OF l _
  |rd=>rw[Kx (by simp)];simp only[BD];exact OF l _
  |rx=>rw[Kx (by simp)];simp only[BD];exact OF l _
  |io=>rw[Kx (by simp)];cases c<;>cases d<;>simp only[BD,OF l a]
def Wu:∀{e:List (M×C×D)}{b:List C}{x:M×C×D},x∈Dm e b->x.1≠.ow->x∈e
 |[],_,_,h,_=>by simp[Dm]at h
 |(m,c,d)::l,b,x,h,a=>by
  by_cases f:m=.ow
  .subst f;cases b with
   |nil=>
    simp only[Dm,AX]at h;rcases h with rfl|h
    .exact (a rfl).elim
    exact Bx _ (Wu h a)
   |cons y b=>
    simp only[Dm,AX]at h;rcases h with rfl|h
    .exact (a rfl).elim
    exact Bx _ (Wu h a)
  rw[Kx f]at h;rcases AX.1 h with rfl|h
  .simp
  exact Bx _ (Wu h a)
def bo{R f:C->Value->Prop}:∀{fl:List (M×C×D)}{b a:List C},HT R f (fl.map md) ((Dm fl b).map (·.2.1)) a->HT R f (fl.map md) (fl.map (·.2.1)) a
 |[],_,_,h=>h
 |(m,c,d)::l,b,a,h=>by
  by_cases g:m=.ow
  .subst g;cases a with
   |nil=>cases b<;>exact h.elim
   |cons y a=>
    cases b with
    |nil=>exact⟨λe=>by simp[EK,md]at e,bo h.2⟩
    |cons z b=>exact⟨λe=>by simp[EK,md]at e,bo h.2⟩
  rw[Kx g]at h;cases a with
  |nil=>exact h.elim
  |cons y a=>exact⟨h.1,bo h.2⟩
def qO:∀{b:List A}{a:List (Bool×List D)},b.map WJ=a.map (λx=>(x.1,x.2.length))->(b.flatMap λx=>(DX x).2).length=(a.flatMap (·.2)).length
 |[],[],_=>rfl
 |[],_::_,h=>by simp at h
 |_::_,[],h=>by simp at h
 |x::b,o::a,h=>by
  simp only[A2,List.cons.injEq,WJ,A5]at h;simp only[DM,Cb];rw[h.1.2,qO h.2]
def HT.mono{R d c:C->Value->Prop}(h:∀z v,d z v->R z v):∀{l:List (M×D)}{a b:List C},HT R c l a b->HT d c l a b
 |[],[],[],_=>trivial
 |_::_,_::_,_::_,k=>⟨λf v e=>k.1 f v (h _ _ e),HT.mono h k.2⟩
 |[],_::_,_,k=>k.elim
 |[],[],_::_,k=>k.elim
 |_::_,[],_,k=>k.elim
 |_::_,_::_,[],k=>k.elim
def pa:∀(a:List (Nat×Nat×Nat)) (b j:Nat) (x:Nat×Nat×Nat),a[j]?= some x->(b+j,Ent.box x.1 x.2.1 x.2.2)∈Ia a b
 |[],_,_,_,h=>by simp at h
 |(r,c,k)::l,b,0,x,h=>by simp at h;subst h;simp[Ia]
 |(r,c,k)::l,b,j+1,x,h=>by
  have:=pa l (b+1) j x (by simpa using h);rw[show b+1+j=b+(j+1) by omega]at this;simp only[Ia,AX];exact .inr this
def sf{R:C->Value->Prop}:∀{B:List (List (M×D)×List C)}{c:List (List C)}{a:List (List Value)},Ai (Ai R) c a->Ai R ((B.zip c).flatMap λx=>EZ x.1.1 x.2) ((B.zip a).flatMap λx=>EZ x.1.1 x.2)
 |[],_,_,_=>by simp[Ai]
 |_::_,[],[],_=>by simp[Ai]
 |b::B,x::c,y::a,h=>by
  simp only[Jf,DM];exact Ai.append (j9 h.1) (sf h.2)
 |_::_,[],_::_,h=>h.elim
 |_::_,_::_,[],h=>h.elim
def ng{F:World}{f:Nat->Nat->Prop}{s:Aw}{g:Bp}{pl:Aw}{a:List (Nat×Root)}{q n:Nat}{w:World}(h:Hp F f s g pl a q q n w):∀(d:List (List C)) (b:Nat),(∀(j:Nat) (e:List C),d[j]?= some e->get a (b+j)=some (.bx e)) ->
  ∃c:List (List Value),Ai (Ai (CR pl q)) d c/\∀j l,c[j]?= some l->∀i u,l[i]?= some u->w.cell? ⟨(pl (b+j) []).b,(pl (b+j) []).off+i,none⟩=some u
 |[],_,_=>⟨[],trivial,by simp⟩
 |e::d,b,t=>by
  obtain⟨c,z,A⟩:=ng h d (b+1) λj e E=>by rw[show b+1+j=b+(j+1) by omega];exact t (j+1) e (by simpa using E)
  have y:=t 0 e rfl;obtain⟨l,G,o,B⟩:=h.boxFrom (r:=b+0) (cs:=e) (by unfold Vd;rw[y]) e 0 (λk x D=>by simpa using D);refine⟨l::c,⟨B,z⟩,λj m p i u v=>?_⟩;cases j with
  |zero=>simp only[AD,Ac]at p;subst p;have:=o i u v;simpa using this
  |succ j=>have:=A j m (by simpa using p) i u v;rwa[show b+1+j=b+(j+1) by omega]at this
variable {w0:World} {own0:Nat->Nat->Prop} {pl0:Aw} {g:Bp} {pl:Aw} {fix:Nat} {w:World}
def Rt(w0:World)(own0:Nat->Nat->Prop)(pl0:Aw)(pl:Aw)(S:St)(fix:Nat)(K:V->List (Nat×Ao)->List (Nat×Root)->Nat->Prop)(e:Ending)(h:World):Prop:=
 ∃rv x d a c f b,e=.returned rv/\VR b c x rv/\Hp w0 own0 pl0 f b a c c fix h/\(∀z u,CR pl S.next z u->CR b c (BE d z) u)/\K x d a c
def nt{C : List Value → World → (Ending → World → Prop) → Prop}(hm : ∀ ws w (R R' : Ending → World → Prop), (∀ e w', R e w' → R' e w') → C ws w R → C ws w R'){S : St}{J : List V}{ws : List Value}{K : V → List (Nat × Ao) → List (Nat × Root) → Nat → Prop}(hp : Hp w0 own0 pl0 g pl S.roots S.next S.next fix w)(hv : Ai (VR pl S.next) J ws)(hc : fL C S J K):
    C ws w (Rt w0 own0 pl0 pl S fix K) := by
  obtain ⟨d, a, a7, A, hf, rt, ht, N, hs, r1, d7, r2, d8, hK⟩ := hc;obtain ⟨g1, m, c⟩ := enter hp hv hf ht N hs;refine hm _ _ _ _ ?_ (a7 w _ _ _ ws c.inn c.args);rintro e w' ⟨rv, gc, f1, d5, f, f9, rfl, U, c7, xs, f0, c9, b0, e5, b8, a9, d0, d9, e2⟩;obtain ⟨us, O, a6⟩ := t6 f0 c7;obtain ⟨d6, L, b7⟩ := ng U b0 _ b8;have a8 := Ai.append O (sf (B := Ds d (CA d).1) L);obtain ⟨g2, P, hC, b3, c5, f3⟩ := WO _ _ _ _ _ _ _ _ U a8 d0
  -- names
  have b1 : C3 d ≤ f := U.fixle;have o := Iu (a.res.flatMap (·.2) ++ a.bx.flatten) S.next;have c1 := Iu (a.res.flatMap (·.2) ++ a.bx.flatten) f;have f4 := sJ (a.res.flatMap (·.2) ++ a.bx.flatten) S.next f;have c4 : ∀ id, f ≤ id → id < (AU (a.res.flatMap (·.2) ++ a.bx.flatten) f).2.2 → id - f + S.next < (AU (a.res.flatMap (·.2) ++ a.bx.flatten) S.next).2.2 := by intro id T X; omega
  have c2 := Iu (Ew A) S.next;have hX : ∀ t, t < S.next → get ((AU (Ew A) S.next).2.1 ++ rt) t = get rt t := by
    intro t ht;rw[Ft, V6 (λx D => by have := (c2.2 x D).1; omega)]
  have hY : ∀ t, t < f → get ((AU (a.res.flatMap (·.2) ++ a.bx.flatten) f).2.1 ++ a9) t = get a9 t := by
    intro t ht;rw[Ft, V6 (λx D => by have := (c1.2 x D).1; omega)]
  have a2 := We (pl1 := m) (pl2 := P) (n0 := S.next) (n1 := f) c4 _ _ 0 c5;simp only[AL] at a2;have I : (Dm A (AU (Ew A) S.next).1).map md = flat d := by rw[Wt]; exact c.md
  have c0 : (Bh (flat d) (0, C3 d)).2.2.1 = DL (flat d) := by rw[iW]; simp
  have b2 : C3 d = DL (flat d) + Ir d := rfl;obtain ⟨f2, d1, a4⟩ := c.good
  -- what 'rx' cells hold
  have c8 := ts (nF := (AU (a.res.flatMap (·.2) ++ a.bx.flatten) S.next).2.2) (n0 := S.next) (n1 := f) (F := C3 d) c.ids (λid q h => hC.fixed id q h) o.1 (Dm A (AU (Ew A) S.next).1) f2 (0, C3 d) a4 (by
      intro x D r p s lo n e7 e9;have e8 := Wu D (by rw[e9]; simp);obtain ⟨i, hi⟩ := Kd e8;obtain ⟨u, _, hu⟩ := d1.get i x.2.1 (by rw[CQ, hi]; rfl);rw[e7] at hu;exact hu.1) (λx D => C7.2 (.inl D)) (by rw[I, c0, b2]; omega)
  rw[I] at c8;have Z := bo (fl := A) (by rw[c.md]; exact c8);rw[c.md] at Z;have a1 : ∀ (j : Nat) (x : Nat × Nat × Nat), (B7 J d)[j]?= some x → DL (flat d) + j < C3 d := by
    intro j x hj;have := (CY.1 hj).1;have := c.blen;omega
  have c3 : ∀ r, r ∈ BJ (F5 A S.next (B7 J d) d) → r < S.next → r ∈ BD A ∨ r ∈ (B7 J d).map (·.1) := by
    intro r G l;unfold F5 at G;rw[h_, iB, iA, C7] at G;rcases G with G | G
    · rcases Km G with k | k
      · exact .inl k
      omega
    exact .inr G
  rw[ME] at N
  -- the slices that were written
  obtain ⟨e3, e4⟩ := Zj (E := F5 A S.next (B7 J d) d) (Y := a9) (F := C3 d) (roots0 := rt)
    (Q := λr x => r ∉ (B7 J d).map (·.1) → r < (AU (a.res.flatMap (·.2) ++ a.bx.flatten) S.next).2.2 ∧ Er (G2 w0 own0) w' (Ho g1 (F5 A S.next (B7 J d) d) S.next f g2) (Fy m P S.next f) (AU (a.res.flatMap (·.2) ++ a.bx.flatten) S.next).2.2 r x)
    (Dm A (AU (Ew A) S.next).1) (0, C3 d) rt a.io r1 (by rw[MU]; exact d7) (by rw[OF]; exact N.1) (λ_ _ => rfl) (λx D => C7.2 (.inl D)) (by rw[I]; exact e2) (by rw[I, c0, b2]; omega)
    (by
      intro id r p s lo n sz es hm hE W f6 b9 hl g0 f7 G _;obtain ⟨rfl, rfl, rfl, g3, f8, T, X⟩ := hs _ (Wu hm (by simp));rw[G] at T;simp only[Ac, Root.tr.injEq] at T;obtain ⟨rfl, rfl⟩ := T;have l := c.rtlt r _ G;exact ⟨by omega, xf c.hp hC c.ids c.hand b1 hE W l (by rw[hX r l]; exact G) X (by rw[hY id (by omega)]; exact b9) hl _⟩)
    (by
      intro r x G c6 a5;rw[OF] at c6;have l := c.rtlt r _ G;exact ⟨by omega, ex c.hp hC o.1 l (λh => (c3 r h l).elim c6 a5) (by rw[hX r l]; exact G)⟩)
  -- the variables
  have e6 : us.length = (a.res.flatMap (·.2)).length := by rw[← O.length]; exact qO c9
  have M := Ai.drop (a.res.flatMap (·.2)).length a2;rw[KI e6] at M;have hQ := eu (R := CR f1 f) (R' := CR (Fy m P S.next f) (AU (a.res.flatMap (·.2) ++ a.bx.flatten) S.next).2.2) (roots0 := S.roots)
    (Q := λr x => r < (AU (a.res.flatMap (·.2) ++ a.bx.flatten) S.next).2.2 ∧ Er (G2 w0 own0) w' (Ho g1 (F5 A S.next (B7 J d) d) S.next f g2) (Fy m P S.next f) (AU (a.res.flatMap (·.2) ++ a.bx.flatten) S.next).2.2 r x)
    J d A (CA d).1 a.bx _ r1 r2 b0 d6 hf ?_ e5 L M d9 d8 N.2.1 ?_ ?_ ?_
  · refine ⟨rv, _, [], _, _, _, _, rfl, a6 _ _ a.res _ _ c9 a2, ew c.hp hC o.1 c4 hp.fixle (R := (AU (a.res.flatMap (·.2) ++ a.bx.flatten) S.next).2.1 ++ r2) ?_, ?_, hK⟩
    · intro r x D
      rw[Ft] at D;split at D
      · rename_i y hy
        simp only[Ac] at D; subst D;obtain ⟨T, X, sz, es, rfl⟩ := Wf _ S.next f r y hy;have h3 := ((o.2 _ (LX hy))).2;refine ⟨h3, ?_⟩;have := n9 (n0 := S.next) (n1 := f) (nF := (AU (a.res.flatMap (·.2) ++ a.bx.flatten) S.next).2.2) (g1 := g1) (pl1 := m) hC (id := r - S.next + f) (by omega) (by rw[Ft, X]) (G2 w0 own0)
        rwa[show r - S.next + f - f + S.next = r by omega] at this
      exact hQ r x D
    intro z u hz;exact Sf o.1 (hz.agree c.agree)
  · -- R: places over there
    refine HT.mono ?_ Z;intro z v hz;exact hz.agree b3
  · intro x D
    obtain ⟨_, cs, T, X, _⟩ := c.bxs x D;rw[e4 _ (by rw[OF]; exact λk => N.2.2 _ k _ (Ym D) rfl), T, X]
  · intro j x yj bv zs hj d2 b6 d4 d3 cs a3
    obtain ⟨l, f5, T, X, e0⟩ := c.bxs x (CP hj);rw[X] at a3;simp only[Ac, Root.bx.injEq] at a3; subst a3;have W := a1 j x hj;have hE : (DL (flat d) + j, Ent.box x.1 x.2.1 x.2.2) ∈ F5 A S.next (B7 J d) d := C7.2 (.inr (pa _ _ _ _ hj));have b5 : bv.length = yj.length := by
      obtain ⟨b', a0, b4⟩ := L.get j yj d2;rw[b6] at a0; simp only[Ac] at a0; subst a0;exact b4.length.symm
    refine ⟨by omega, xe c.hp hC o.1 c.ids c.hand b1 hE W l (by rw[hX _ l]; exact T) e0 (by rw[hY _ (by omega)]; exact cc d0 _ _ (b8 j yj d2)) d3 (by rw[d4.length, b5, d3]) ?_ _⟩;intro i y z v hy hz H _;obtain ⟨u, hu, e1⟩ := d4.get i z hz;have hc := b7 j bv b6 i u hu;rw[U.fixed _ [] W] at hc;rw[show Cd m (F5 A S.next (B7 J d) d) (DL (flat d) + j) [] = ⟨false, (m x.1 []).b, (m x.1 []).off + x.2.1, 0, 1, none⟩ by unfold Cd; rw[Ij c.ids hE]] at hc;simp only[FQ] at hc;rw[hc] at H;simp only[Ac] at H; subst H;exact e1
  intro r x G a5;exact e3 r x G a5
def xy{P:Program}{S:St}{f:FuncId}{a:List V}{b:List Value}{K:V->List (Nat×Ao)->List (Nat×Root)->Nat->Prop}(d:Hp w0 own0 pl0 g pl S.roots S.next S.next fix w)(e:Ai (VR pl S.next) a b)(c:fK P S f a K):
  Calls P f b.toArray w (Rt w0 own0 pl0 pl S fix K):=
 nt (C:=λa w R=>Calls P f a.toArray w R) (λ_ _ _ _ h k=>Calls.mono k h) d e c
def nK{α β:Type}{R:α->β->Prop}:∀{d b:List α}{c:List β},Ai R (d++b) c->∃e w2,c=e++w2/\Ai R d e/\Ai R b w2
 |[],b,c,h=>⟨[],c,rfl,trivial,h⟩
 |a::d,b,[],h=>h.elim
 |a::d,b,w::c,h=>by
  obtain⟨e,w2,rfl,f,i⟩:=nK h.2;exact⟨w::e,w2,rfl,⟨h.1,f⟩,i⟩
def nN{pl:Aw}{c:Nat}:∀{b:List A}{d:List Value},Ai (AR pl c) b d->Ai (VR pl c) (b.map V.a) d
 |[],[],_=>trivial
 |_::_,_::_,h=>⟨h.1,nN h.2⟩
 |[],_::_,h=>h.elim
 |_::_,[],h=>h.elim
def Zhq{P:Program}{S:St}{f:FuncId}{o:List V}{c:List Value}{K:V->List (Nat×Ao)->List (Nat×Root)->Nat->Prop}(s:Hp w0 own0 pl0 g pl S.roots S.next S.next fix w)(t:Ai (VR pl S.next) o c)(i:nr P S f o K):
  Calls P f c.toArray w (Rt w0 own0 pl0 pl S fix K):=by
 obtain⟨n,q,l,rfl,i⟩:=i;obtain⟨p,w2,rfl,m,d⟩:=nK t
 match w2,d with
 |[u],d=>
  obtain⟨a,rfl,j⟩:=d.1;have r:=m.length;have b:=nt (C:=λc w R=>Calls P f (Ja n.length q c).toArray w R) (λ_ _ _ _ h k=>Calls.mono k h) s (Ai.append m (nN j)) i;have e:Ja n.length q (p++a)=p++[.func (.func q) #[] a.toArray]:=by
   unfold Ja;rw[r,db,U5]
  simp only[e]at b;exact b
end Go.Vs
namespace Go.Vs
variable [Glb]
inductive Lies (W:World):D->Value->Prop where
 |lf (v:Value) (h:v.oneCell'=true):Lies W (.lf v) v
 |hole (v:Value) (h:v.oneCell'=true):Lies W .hole v
 |nil (sz:Nat) (A:Option Addr):Lies W (.sl sz []) (.slice A 0 0)
 |sl (sz:Nat) (es:List (List D)) (b off cap:Nat) (vals:Nat->Nat->Value) (hle:es.length<=cap) (hsz:∀e∈es,e.length=sz)
   (hc:∀(i c:Nat) (e:List D) (d:D),es[i]?= some e->e[c]?= some d->W.cell? ⟨b,off+(i*sz+c),none⟩=some (vals i c))
   (hd:∀(i c:Nat) (e:List D) (d:D),es[i]?= some e->e[c]?= some d->Lies W d (vals i c)):Lies W (.sl sz es) (.slice (some ⟨b,off,none⟩) es.length cap)
def eD(W:World)(b:Nat)(a:List (List D))(v:Value)(L:Ao->Pl):Prop:=
 (L []).sz=b/\v=LJ (L []) a.length/\∀p n,AH b a p=some n->NodeC W (λ_ q=>L q) 0 p n.1 n.2/\nG (G2 W λ_ _=>False) (λ_ q=>L q) 0 p n.2.length
def Lies.placed{W:World}{d:D}{v:Value}(h:Lies W d v):∀g m,d=.sl g m->∃L,eD W g m v L:=by
 induction h with
 |lf v h=>intro g m e;cases e
 |hole v h=>intro g m e;cases e
 |nil g A=>
  intro Q m e;cases e;refine⟨λ_=>⟨true,0,0,0,g,A⟩,rfl,rfl, ?_⟩;intro p n o;cases p with
  |nil=>
   simp only[AH,Ac]at o;subst o;exact⟨⟨rfl,AE _,λ_=>rfl,by simp,by simp⟩,λj G=>by simp at G⟩
  |cons a p=>obtain⟨i,c⟩:=a;simp[AH]at o
 |sl g m b P I k O C T hd ih=>
  intro Q a0 e;cases e;have H:∀i c:Nat,∃L:Ao->Pl,∀(e:List D) (s:Nat) (l:List (List D)),m[i]?= some e->e[c]?= some (.sl s l)->eD W s l (k i c) L:=by
   intro i c;by_cases U:∃e s l,m[i]?= some e/\e[c]?= some (D.sl s l)
   .obtain⟨e,s,l,t,F⟩:=U;obtain⟨L,hL⟩:=ih i c e _ t F s l rfl;refine⟨L,λe' s' l' w y=>?_⟩;rw[t]at w;simp only[Ac]at w;subst w;rw[F]at y;simp only[Ac,D.sl.injEq]at y;obtain⟨rfl,rfl⟩:=y;exact hL
   exact⟨λ_=>default,λe s l t F=>(U ⟨e,s,l,t,F⟩).elim⟩
  let R:=λi c=>Classical.choose (H i c)
  have B:∀i c e s l,m[i]?= some e->e[c]?= some (D.sl s l)->eD W s l (k i c) (R i c):=λi c=>Classical.choose_spec (H i c)
  let L:Ao->Pl:=λq=>match q with
   |[]=>⟨false,b,P,I,g,none⟩
   |(i,c)::q=>R i c q
  refine⟨L,rfl,rfl, ?_⟩;intro p n o;cases p with
  |nil=>
   simp only[AH,Ac]at o;subst o;refine⟨⟨rfl,O,(λh=>by cases h),C, ?_⟩, ?_⟩
   .intro i e c d r f;refine⟨k i c,T i c e d r f, ?_⟩;cases d with
    |lf u=>
     have:=hd i c e _ r f;generalize hv:k i c=x at this;cases this with
     |lf _ t=>exact⟨rfl,t⟩
    |hole=>
     have:=hd i c e _ r f;generalize hv:k i c=x at this;cases this with
     |hole _ t=>exact t
    |sl s l=>
     obtain⟨V,X,_⟩:=B i c e s l r f;exact⟨V,X⟩
   intro j G;have E:0<g:=by
    rcases Yj g with J|J
    .subst J;simp[L]at G
    exact J
   have N:j<m.length*g:=G;have hi:j / g<m.length:=U6 (by rw[Je];exact N);have K:j / g*g+j%g=j:=by rw[Je];exact U7 _ _
   have r:=BW hi;have M:=C _ (CP r);have f:=BW (show j%g<(m[j / g]).length by rw[M];exact KG _ E);have:=T _ _ _ _ r f;rw[K]at this;exact⟨World.block_lt_of_cell? _ _ this,λh=>h⟩
  |cons a q=>
   obtain⟨i,c⟩:=a;simp only[AH]at o;split at o
   .rename_i s l S;simp only[AO]at S;obtain⟨e,r,f⟩:=S;obtain⟨_,_,Y⟩:=B i c e s l r f;obtain⟨z,Z⟩:=Y q n o;exact⟨⟨z.szp,z.le,z.nil,z.szs,z.cells⟩,Z⟩
   simp at o
def aa:∀{l:List D}{k:Kk}{y:Nat×Root},y∈(Bh (l.map λd=>(M.rd,d)) k).2.1->∃s e,y.2=.im s e
 |[],_,_,h=>by simp[Bh]at h
 |.lf v::l,k,y,h=>aa (l:=l) (k:=k) h
 |.hole::l,k,y,h=>aa (l:=l) (k:=k) h
 |.sl s e::l,k,y,h=>by
  simp only[A2,Bh,BY,A1,A0,AX]at h;rcases h with rfl|h
  .exact⟨s,e,rfl⟩
  exact aa (l:=l) h
def Zkl:C->Prop
 |.pe _ _ _ _=>False
 |.pb _ _=>False
 |_=>True
def VK:∀{l:List D}{k:Kk}{x:C},x∈(Bh (l.map λd=>(M.rd,d)) k).1->Zkl x
 |[],_,_,h=>by simp[Bh]at h
 |.lf v::l,k,y,h=>by
  simp only[A2,Bh,BY,AX]at h;rcases h with rfl|h
  .trivial
  exact VK (l:=l) h
 |.hole::l,k,y,h=>by
  simp only[A2,Bh,BY,AX]at h;rcases h with rfl|h
  .trivial
  exact VK (l:=l) h
 |.sl s e::l,k,y,h=>by
  simp only[A2,Bh,BY,AX]at h;rcases h with rfl|h
  .trivial
  exact VK (l:=l) h
def VY{W:World}{N:Nat}{g:Bp}:∀(l:List D) (I:List Value) (k:Kk),Ai (Lies W) l I->(Bh (l.map λd=>(M.rd,d)) k).2.2.2<=N->∃pl:Aw,Ai (CR pl N) (Bh (l.map λd=>(M.rd,d)) k).1 I /\
  (∀y∈(Bh (l.map λd=>(M.rd,d)) k).2.1,k.2<=y.1/\y.1<N/\Er (G2 W λ_ _=>False) W g pl N y.1 y.2)/\(∀x∈(Bh (l.map λd=>(M.rd,d)) k).1,∀r p s A n,x=C.rf r p s A n->k.2<=r)
 |[],[],_,_,_=>⟨λ_ _=>default,trivial,by simp[Bh],by simp[Bh]⟩
 |[],_::_,_,h,_=>h.elim
 |_::_,[],_,h,_=>h.elim
 |d::l,v::I,k,h,Q=>by
  cases d with
  |lf u=>
   obtain⟨pl,G,J,H⟩:=VY (N:=N) (g:=g) l I k h.2 Q;have U:=h.1;refine⟨pl,⟨?_,G⟩,J, ?_⟩
   .cases U with
    |lf _ T=>exact⟨rfl,T⟩
   intro x f r p s A n e;simp only[A2,Bh,BY,AX]at f;rcases f with rfl|f
   .cases e
   exact H x f r p s A n e
  |hole=>
   obtain⟨pl,G,J,H⟩:=VY (N:=N) (g:=g) l I k h.2 Q;have U:=h.1;refine⟨pl,⟨?_,G⟩,J, ?_⟩
   .cases U with
    |hole _ T=>exact T
   intro x f r p s A n e;simp only[A2,Bh,BY,AX]at f;rcases f with rfl|f
   .cases e
   exact H x f r p s A n e
  |sl sz es=>
   simp only[A2,Bh,BY]at Q ⊢;obtain⟨pl,G,J,H⟩:=VY (N:=N) (g:=g) l I (k.1,k.2+1) h.2 Q;obtain⟨L,l1,l2,Y⟩:=h.1.placed sz es rfl;have X:k.2<N:=by have:=(Nk (l.map λd=>(M.rd,d)) (k.1,k.2+1)).2;simp only at this;omega
   let z:Aw:=λr q=>if r=k.2 then L q else pl r q
   have B:∀q,z k.2 q=L q:=λq=>by simp[z]
   have m:∀r q,r≠k.2->z r q=pl r q:=λr q h=>by simp[z,h]
   have o:=Y [] _ rfl;refine⟨z,⟨⟨X, ?_⟩, ?_⟩, ?_, ?_⟩
   .rw[B];refine⟨l1,o.1.nil,by rw[A7];exact o.1.le,(L []).base,by rw[l2];rfl,λ_=>?_⟩;simp[Pl.base]
   .refine Ai.of_get G.length ?_;intro i x u f hu;obtain⟨u',F,K⟩:=G.get i x f;rw[hu]at F;simp only[Ac]at F;subst F;cases x with
    |rf r p s A n=>
     have hr:=H _ (CP f) r p s A n rfl;simp only at hr;refine⟨K.1, ?_⟩;rw[m r p (by omega)];exact K.2
    |un=>exact K
    |nl s=>exact K
    |lf w=>exact K
    |pe r p i c=>exact (VK (CP f)).elim
    |pb r c=>exact (VK (CP f)).elim
   .intro y R;rcases AX.1 R with rfl|R
    .refine⟨AE _,X, ?_⟩;intro p n S;obtain⟨a,b⟩:=Y p n S;refine⟨⟨by rw[B];exact a.szp,by rw[B];exact a.le,by rw[B];exact a.nil,a.szs, ?_⟩, ?_⟩
     .intro i e c d O hd;rw[B,B];exact a.cells i e c d O hd
     intro j P;rw[B]at P ⊢;exact b j P
    obtain⟨Z,b2,V⟩:=J y R;simp only at Z;refine⟨by omega,b2, ?_⟩;have E:=aa R;obtain⟨s,e,O⟩:=E;rw[O]at V ⊢;intro p n S;obtain⟨a,b⟩:=V p n S;have t:y.1≠k.2:=by omega
    refine⟨⟨by rw[m _ _ t];exact a.szp,by rw[m _ _ t];exact a.le,by rw[m _ _ t];exact a.nil,a.szs, ?_⟩, ?_⟩
    .intro i e c d O hd;rw[m _ _ t,m _ _ t];exact a.cells i e c d O hd
    intro j P;rw[m _ _ t]at P ⊢;exact b j P
   intro x f r p s A n e;rcases AX.1 f with rfl|f
   .cases e;exact AE _
   have:=H x f r p s A n e;simp only at this;omega
end Go.Vs
namespace Go.Vs
variable [Glb]
def CN(x:Bool×List D):Arg:=.val x.1 (x.2.map λd=>(M.rd,d))
def JW(W:World)(x:Bool×List D)(v:Value):Prop:=
 if x.1 then ∃a:List Value,v=.agg a.toArray/\Ai (Lies W) x.2 a else ∃d,x.2=[d]/\Lies W d v
def Qq:∀a:List (Bool×List D),flat (a.map CN)=(a.flatMap (·.2)).map λd=>(M.rd,d)
 |[]=>rfl
 |x::a=>by
  have:=Qq a;simp only[flat]at this ⊢;simp only[A2,DM,C2,this];rfl
def S3:∀l:List D,DL (l.map λd=>(M.rd,d))=0
 |[]=>rfl
 |.lf v::l=>by simp only[A2,DL,LF,S3 l]
 |.hole::l=>by simp only[A2,DL,LF,S3 l]
 |.sl s e::l=>by simp only[A2,DL,LF,S3 l]
def ax:∀a:List (Bool×List D),Ir (a.map CN)=0
 |[]=>rfl
 |x::a=>ax a
def SF:∀(a:List (Bool×List D)) (b:List C),Ds (a.map CN) b=[]
 |[],_=>rfl
 |x::a,b=>SF a _
def nX{W:World}{pl:Aw}{N:Nat}:∀(f:List (Bool×List D)) (j:List Value),Ai (JW W) f j->∃i:List Value,Ai (Lies W) (f.flatMap (·.2)) i /\
  ∀(pl:Aw) (N:Nat) (a:List C) (b:Nat),Ai (CR pl N) a i->Ai (VR pl N) (EJ (f.map CN) a b) j
 |[],[],_=>⟨[],trivial,λ_ _ _ _ _=>trivial⟩
 |[],_::_,h=>h.elim
 |_::_,[],h=>h.elim
 |(ag,l)::f,v::j,h=>by
  obtain⟨i,n,o⟩:=nX (W:=W) (pl:=pl) (N:=N) f j h.2;have g:=h.1;unfold JW at g;cases ag with
  |true=>
   simp only[BF]at g;obtain⟨k,rfl,q⟩:=g;refine⟨k++i,Ai.append q n,λpl N a b e=>?_⟩;have p:k.length=(l.map λd=>(M.rd,d)).length:=by rw[B3,q.length]
   have t:=Ai.take (l.map λd=>(M.rd,d)).length e;have m:=Ai.drop (l.map λd=>(M.rd,d)).length e;rw[MF p]at t;rw[KI p]at m;exact⟨⟨k,rfl,t⟩,o pl N _ b m⟩
  |false=>
   simp only[C6,BC]at g;obtain⟨d,rfl,hd⟩:=g;refine⟨v::i,⟨hd,n⟩,λpl N a b e=>?_⟩
   match a,e with
   |c::a,e=>exact⟨e.1,o pl N a b e.2⟩
def nu{P:Program}{f:FuncId}{a:List (Bool×List D)}{u:Out}(h:Gp P f (a.map CN) u){W:World}{vs:Array Value}(s:∀b o v,GU b o=some v->b<W.heap.size/\W.cell? ⟨b,o,none⟩=some v)(K:Ai (JW W) a vs.toList):
  Calls P f vs W λe A=>RowKit.Below W.heap.size W A/\∃rv y pl m c t n,e=.returned rv/\Hp W (λ_ _=>False) pl y m c t t (C3 (a.map CN)) A/\VR m t n rv/\HS (a.map CN) u c n:=by
 obtain⟨L,E,F⟩:=nX (pl:=λ_ _=>default) (N:=0) a vs.toList K;have p:C3 (a.map CN)=0:=by unfold C3;rw[Qq,S3,ax]
 have i:CA (a.map CN)=Bh ((a.flatMap (·.2)).map λd=>(M.rd,d)) (0,0):=by unfold CA;rw[Qq,p]
 obtain⟨pl,B,C,_⟩:=VY (W:=W) (N:=(BX (a.map CN)).2.2) (g:=λ_ _=>none) _ L (0,0) E (by show _<=(CA (a.map CN)).2.2.2;rw[i];exact AE _);have l:(BX (a.map CN)).2.1=(CA (a.map CN)).2.1:=by
  show (CA (a.map CN)).2.1++Iw (Ds (a.map CN) (CA (a.map CN)).1) _=_;rw[SF];simp[Iw]
 have J:Hp W (λ_ _=>False) pl (λ_ _=>none) pl (BX (a.map CN)).2.1 (BX (a.map CN)).2.2 (BX (a.map CN)).2.2 (C3 (a.map CN)) W:=by
  refine⟨Fr.refl _ _ (λb o v h=>⟨(s b o v h).1,λk=>k,(s b o v h).2⟩),(λb o x w=>by cases w),(λ_ _ _=>rfl),by rw[p];exact Cq _,AE _, ?_⟩;intro r x w;rw[l,i]at w;have:=C _ (LX w);exact⟨this.2.1,this.2.2⟩
 have q:Ai (VR pl (BX (a.map CN)).2.2) (BX (a.map CN)).1 vs.toList:=by
  refine F pl _ (CA (a.map CN)).1 _ ?_;rw[i];exact B
 have:=h W (λ_ _=>False) _ pl vs.toList J q;rw[show vs.toList.toArray=vs from rfl]at this;refine this.mono ?_;rintro e O ⟨rv,y,m,c,t,n,H,j,z,I⟩;exact⟨⟨j.fr.os,j.fr.tape,j.fr.output,j.fr.size,λb G=>j.fr.block b G λ_ h=>h⟩,rv,y,pl,m,c,t,n,H,j,z,I⟩
def Zjx{i:List Arg}{v:Value}{l:List (Nat×Root)}{k:V}(h:HS i ⟨[(false,[.lf v])],[],[]⟩ l k)(p:Ds i (CA i).1=[]):k=.a (.c (.lf v)):=by
 obtain⟨s,e,g,m,u,_,z,j,_⟩:=h;rw[p]at j;simp only[m6,Ke,AB,MG,DM]at j
 match s,g with
 |[x],g=>
  simp only[A2,CB,List.cons.injEq,PK,A5,Aq,Ay]at g;cases x with
  |ag o=>simp[DX]at g
  |c c=>
   simp only[DX,DM,Ke,AB,Dd]at j;split at j
   .rename_i d w b;simp only[Ac,A5,List.cons.injEq,PK]at j;obtain⟨rfl,rfl⟩:=j;have q:c=.lf v:=by
     unfold DZ at b;split at b
     .simp only[Ac,A5,D.lf.injEq]at b;rw[b.1]
     .simp at b
     .split at b
      .split at b
       .split at b<;>simp at b
       simp at b
      simp at b
     simp at b
    subst q;cases k with
    |a y=>simp only[Kh,Ac,List.cons.injEq,PK]at e;rw[e]
    |un=>simp[Kh]at e
    |fn f o=>simp[Kh]at e
    |sb r n=>simp[Kh]at e
    |tp t=>
     match t,e with
     |[],e=>simp[Kh]at e
     |[_],e=>simp[Kh]at e
     |_::_::_,e=>simp[Kh]at e
   simp at j
 |[],g=>simp at g
 |_::_::_,g=>simp at g
def Zjn{P:Program}{f:FuncId}{av:List (Bool×List D)}{r:Value}(h:Gp P f (av.map CN) ⟨[(false,[.lf r])],[],[]⟩){W:World}{vs:Array Value}(a:∀b o v,GU b o=some v->b<W.heap.size/\W.cell? ⟨b,o,none⟩=some v)(k:Ai (JW W) av vs.toList):
  Calls P f vs W λe d=>e=.returned r/\RowKit.Below W.heap.size W d:=by
 refine (nu h a k).mono ?_;rintro e d ⟨g,rv,n,pl,l,c,q,m,rfl,p,j,i⟩;have:=Zjx i (SF av _);subst this;exact⟨by rw[j.1],g⟩
end Go.Vs
namespace Go.Vs
variable [Glb]
def Ix(a:List (Nat×Root)):C->D->Prop
 |c,.lf v=>c=.lf v
 |.nl s,.sl b d=>s=b/\d=[]
 |.rf r p s e n,.sl b d=>s=b/\(e=0\/0<n)/\∃l,EA a r p=some (b,l)/\e+n<=l.length/\d=(l.drop e).take n
 |_,_=>False
def Tq(b:List (Nat×Root)):V->Bool×List D->Prop
 |.a (.c x),(false,[d])=>Ix b x d
 |.a (.ag f),(true,h)=>Ai (Ix b) f h
 |.sb r n,(false,[.sl 1 g])=>∃f,get b r=some (.bx f)/\f.length=n/\n=g.length/\Ai (λc e=>∃d,e=[d]/\Ix b c d) f g
 |_,_=>False
def fM(P:Program)(S:St)(f:FuncId)(c:List V)(K:V->List (Nat×Ao)->List (Nat×Root)->Nat->Prop):Prop:=
 ∃b a,Gp P f (b.map CN) ⟨a,[],[]⟩/\Ai (Tq S.roots) c b /\
  K (Ey (FU a (AU (a.flatMap (·.2)) S.next).1)) [] ((AU (a.flatMap (·.2)) S.next).2.1++S.roots) (AU (a.flatMap (·.2)) S.next).2.2
section
variable {w0:World} {own0:Nat->Nat->Prop} {pl0:Aw} {g:Bp} {pl:Aw} {roots:List (Nat×Root)} {nx fix:Nat} {w:World}
def Hp.node_lies(h:Hp w0 own0 pl0 g pl roots nx nx fix w):∀(n:Nat) (r:Nat) (p:Ao) (y:Nat) (l:List (List D)) (f k:Nat) (v:Value),SizeOf.sizeOf ((l.drop f).take k)<=n->EA roots r p=some (y,l)->f+k<=l.length->(f=0\/0<k)->Gc (pl r p) y f k v->Lies w (.sl y ((l.drop f).take k)) v
 |0,r,p,y,l,f,k,v,H,_,_,_,_=>by
  exfalso;cases E:(l.drop f).take k with
  |nil=>rw[E]at H;simp at H
  |cons a b=>rw[E]at H;simp at H
 |n+1,r,p,y,l,f,k,v,H,t,T,U,V=>by
  obtain⟨hr,K⟩:=h.node t;obtain⟨O,I,R,A,rfl,Q⟩:=V;simp only at K;have z:((l.drop f).take k).length=k:=by simp;omega
  cases E:(pl r p).nil with
  |true=>
   have L:=I E;have C:k=0:=by omega
   have q:f=0:=by omega
   subst C q;rw[L];simp only[AP];exact .nil y A
  |false=>
   by_cases hk:0<k
   .have m:=Q (.inl (by omega));rw[E]at m;simp only[C6,BC]at m;subst m;have cell:∀(i c:Nat) (e:List D) (d:D),((l.drop f).take k)[i]?= some e->e[c]?= some d->∃u,w.cell? ⟨(pl r p).b,(pl r p).off+f*(pl r p).sz+(i*y+c),none⟩=some u/\DV (pl r (p++[(f+i,c)])) d u/\l[f+i]?= some e:=by
     intro i c e d o hd;rw[EM]at o;split at o
     .rw[F2]at o;obtain⟨u,F,B⟩:=K.cells (f+i) e c d o hd;refine⟨u, ?_,B,o⟩;rw[<-F,O];congr 2;rw[Fn];omega
     simp at o
    have J:=Lies.sl (W:=w) y ((l.drop f).take k) (pl r p).b ((pl r p).off+f*(pl r p).sz) ((pl r p).cap-f) (λi c=>(w.cell? ⟨(pl r p).b,(pl r p).off+f*(pl r p).sz+(i*y+c),none⟩).getD undef) (by rw[z];omega) (λe o=>K.szs e (Gm (G4 o))) ?_ ?_
    .rw[z]at J;exact J
    .intro i c e d o hd;obtain⟨u,F,_⟩:=cell i c e d o hd;rw[F];rfl
    intro i c e d o hd;obtain⟨u,F,B,S⟩:=cell i c e d o hd;rw[F];simp only[Eg];cases d with
    |lf x=>rw[B.1];exact .lf x B.2
    |hole=>exact .hole u B
    |sl s j=>
     have M:=sP t (f+i) c;simp only[S,DF,hd]at M;obtain⟨_,G⟩:=h.node M;have N:SizeOf.sizeOf j<SizeOf.sizeOf ((l.drop f).take k):=by
      have X:D.sl s j∈e:=CP hd;have Y:e∈(l.drop f).take k:=CP o;have Z:=m7 X;have s2:=m7 Y;simp only[D.sl.sizeOf_spec]at Z;omega
     have P:(j.drop 0).take j.length=j:=by simp
     have:=h.node_lies n r (p++[(f+i,c)]) s j 0 j.length u (by rw[P];omega) M (by omega) (.inl rfl) (by
      refine⟨B.1,G.nil,by simpa using G.le,_, ?_,λ_=>rfl⟩;rw[B.2];simp[LJ,Pl.base])
     rwa[P]at this
   have C:k=0:=by omega
   have q:f=0:=by omega
   subst C q;have m:=Q (.inr rfl);rw[E]at m;simp only[C6,BC]at m;subst m;simp only[AP];exact Lies.sl (W:=w) y [] (pl r p).b ((pl r p).off+0*(pl r p).sz) ((pl r p).cap-0) (λ_ _=>undef) (Cq _) (by simp) (by simp) (by simp)
def Hp.sees_lies(h:Hp w0 own0 pl0 g pl roots nx nx fix w){c:C}{d:D}{v:Value}(a:Ix roots c d)(b:CR pl nx c v):Lies w d v:=by
 cases d with
 |lf x=>
  cases c<;>simp only[Ix]at a<;>try (cases a)
  rw[b.1];exact .lf _ b.2
 |hole=>cases c<;>simp[Ix]at a
 |sl o m=>
  cases c with
  |nl s=>
   obtain⟨rfl,rfl⟩:=a;rw[show v=.slice none 0 0 from b];exact .nil _ none
  |rf r p s k n=>
   obtain⟨rfl,e,l,f,j,rfl⟩:=a;exact h.node_lies _ r p s l k n v (AE _) f j e b.2
  |un=>simp[Ix]at a
  |lf x=>simp[Ix]at a
  |pe r p i c=>simp[Ix]at a
  |pb r c=>simp[Ix]at a
def Hp.seesA_lies(h:Hp w0 own0 pl0 g pl roots nx nx fix w):∀{e:List C}{f:List D}{i:List Value},Ai (Ix roots) e f->Ai (CR pl nx) e i->Ai (Lies w) f i
 |[],[],[],_,_=>trivial
 |c::e,d::f,u::i,a,b=>⟨h.sees_lies a.1 b.1,h.seesA_lies a.2 b.2⟩
 |[],[],_::_,_,b=>b.elim
 |[],_::_,_,a,_=>a.elim
 |_::_,[],_,a,_=>a.elim
 |_::_,_::_,[],_,b=>b.elim
def Hp.seesV_lies(h:Hp w0 own0 pl0 g pl roots nx nx fix w){x:V}{y:Bool×List D}{v:Value}(l:Tq roots x y)(E:VR pl nx x v):JW w y v:=by
 unfold Tq at l;split at l
 .exact⟨_,rfl,h.sees_lies l E⟩
 .obtain⟨N,rfl,M⟩:=E;exact⟨N,rfl,h.seesA_lies l M⟩
 .rename_i r n z;obtain⟨s,K,O,J,f⟩:=l;obtain⟨L,rfl⟩:=E;have I:=(h.roots r _ K).2;refine⟨_,rfl, ?_⟩;have o:s.length=z.length:=by omega
  have one:∀(i c:Nat) (e:List D) (d:D),z[i]?= some e->e[c]?= some d->c=0/\∃x u,s[i]?= some x/\Ix roots x d/\w.cell? ⟨(pl r []).b,(pl r []).off+i,none⟩=some u/\CR pl nx x u:=by
   intro i c e d j hd;have t:i<s.length:=by rw[o];exact (CY.1 j).1
   have k:=BW t;obtain⟨G,a,F,rfl,p⟩:=f.get i _ k;rw[j]at a;simp only[Ac]at a;subst a;have B:c=0:=by
    cases c with
    |zero=>rfl
    |succ c=>simp at hd
   subst B;simp only[AD,Ac]at hd;subst hd;obtain⟨u,m,A,_⟩:=I i _ k;exact⟨rfl,_,u,k,p,m,A⟩
  have q:=Lies.sl (W:=w) 1 z (pl r []).b (pl r []).off n (λi c=>(w.cell? ⟨(pl r []).b,(pl r []).off+(i*1+c),none⟩).getD undef) (by omega) ?_ ?_ ?_
  .rw[<-J]at q;exact q
  .intro e j;obtain⟨i,t⟩:=Kd j;have C:i<s.length:=by rw[o];exact (CY.1 t).1
   obtain⟨G,a,F,rfl,_⟩:=f.get i _ (BW C);rw[t]at a;simp only[Ac]at a;rw[a];rfl
  .intro i c e d j hd;obtain⟨rfl,x,u,_,_,m,_⟩:=one i c e d j hd;rw[Og,AL,m];rfl
  intro i c e d j hd;obtain⟨rfl,x,u,_,H,m,A⟩:=one i c e d j hd;rw[Og,AL,m];exact h.sees_lies H A
 exact l.elim
def Hp.seesVs_lies(h:Hp w0 own0 pl0 g pl roots nx nx fix w):∀{i:List V}{f:List (Bool×List D)}{e:List Value},Ai (Tq roots) i f->Ai (VR pl nx) i e->Ai (JW w) f e
 |[],[],[],_,_=>trivial
 |c::j,d::k,u::e,a,b=>⟨h.seesV_lies a.1 b.1,h.seesVs_lies a.2 b.2⟩
 |[],[],_::_,_,b=>b.elim
 |[],_::_,_,a,_=>a.elim
 |_::_,[],_,a,_=>a.elim
 |_::_,_::_,[],_,b=>b.elim
def si(g:Bp):ES g []=λ_ _=>False:=by
 funext b o;simp only[ES,GY,eq_iff_iff,iff_false];cases g b o<;>simp[C8]
def Znh{P:Program}{S:St}{f:FuncId}{N:List V}{O:List Value}{K:V->List (Nat×Ao)->List (Nat×Root)->Nat->Prop}(j:Hp w0 own0 pl0 g pl S.roots S.next S.next fix w)(hv:Ai (VR pl S.next) N O)(hc:fM P S f N K):
  Calls P f O.toArray w (Rt w0 own0 pl0 pl S fix K):=by
 obtain⟨av,a,n,hs,hK⟩:=hc;refine Calls.mono (nu n (W:=w) (vs:=O.toArray) (λb o v h=>⟨CO (j.fr.gl b o v h).1 j.fr.size,j.fr.glb h⟩) (j.seesVs_lies hs hv)) ?_;rintro e w' ⟨_,rv,gc,a6,a5,F,d,L,rfl,H,D,xs,J,I,a0,a4,a2,M,q,a1,a3⟩;rw[SF]at q;simp only[m6,Ke,AB,MG]at q;obtain⟨us,l,m⟩:=t6 J D;obtain⟨g2,s,i,T,C,X⟩:=WO _ _ _ _ _ _ _ _ H l q;have k:C3 (av.map CN)=0:=by unfold C3;rw[Qq,S3,ax]
 have G:Hp w (ES g []) (Cd pl []) g2 s ((AU (a.flatMap (·.2)) d).2.1++M) (AU (a.flatMap (·.2)) d).2.2 d 0 w':=by
  rw[si];rw[k]at i;exact⟨i.fr,i.lab,(λr p h=>H4 h (U9 _)),Cq _,i.ncle,i.roots⟩
 have c:=Iu (a.flatMap (·.2)) S.next;have U:=Iu (a.flatMap (·.2)) d;have Z:=sJ (a.flatMap (·.2)) S.next d;have B:∀id,d<=id->id<(AU (a.flatMap (·.2)) d).2.2->id-d+S.next<(AU (a.flatMap (·.2)) S.next).2.2:=by intro id h1 Q;omega
 have A:=We (pl1:=pl) (pl2:=s) (n0:=S.next) (n1:=d) B _ _ 0 C;simp only[AL]at A;refine⟨rv,_,[],_,_,_,_,rfl,m _ _ a _ [] I (by rw[AB];exact A),ew (E:=[]) j G c.1 B j.fixle (R:=(AU (a.flatMap (·.2)) S.next).2.1++S.roots) ?_, ?_,hK⟩
 .intro r x t;rw[Ft]at t;split at t
  .rename_i y hy;simp only[Ac]at t;subst t;obtain⟨h1,Q,sz,es,rfl⟩:=Wf _ S.next d r y hy;have h3:=((c.2 _ (LX hy))).2;refine⟨h3, ?_⟩;have:=n9 (E:=[]) (n0:=S.next) (n1:=d) (nF:=(AU (a.flatMap (·.2)) S.next).2.2) (g1:=g) (pl1:=pl) G (id:=r-S.next+d) (by omega) (by rw[Ft,Q]) (G2 w0 own0)
   rwa[show r-S.next+d-d+S.next=r by omega]at this
  have Y:=(j.roots r x t).1;exact⟨CO Y c.1,ex (E:=[]) j G c.1 Y (by simp[BJ]) t⟩
 intro z u hz;exact Sf c.1 hz
def Y2(P:Program)(f:FuncId)(d:D)(tl:List Value):Prop:=
 ∀(W:World) (v:Value),(∀b o v,GU b o=some v->b<W.heap.size/\W.cell? ⟨b,o,none⟩=some v)->JW W (false,[d]) v ->
  Calls P f #[v] W λe h=>∃i a c,Hp W (λ_ _=>False) a i a [(c,.bx (.un::tl.map .lf))] (c+1) c 0 h/\e=.returned (.pointer (some ⟨(a c []).b,(a c []).off,none⟩))/\h.cell? ⟨(a c []).b,(a c []).off,none⟩=some v
def nm(P:Program)(S:St)(f:FuncId)(b:List V)(K:V->List (Nat×Ao)->List (Nat×Root)->Nat->Prop):Prop:=
 ∃c d tl,b=[.a (.c c)]/\Y2 P f d tl/\Ix S.roots c d/\K (.a (.c (.pb S.next 0))) [] ((S.next,.bx (c::tl.map .lf))::S.roots) (S.next+1)
def yV{P:Program}{S:St}{f:FuncId}{O:List V}{J:List Value}{K:V->List (Nat×Ao)->List (Nat×Root)->Nat->Prop}(m:Hp w0 own0 pl0 g pl S.roots S.next S.next fix w)(I:Ai (VR pl S.next) O J)(T:nm P S f O K):
  Calls P f J.toArray w (Rt w0 own0 pl0 pl S fix K):=by
 obtain⟨c,d,tl,rfl,U,W,Q⟩:=T
 match J,I with
 |[v],I=>
 have A:CR pl S.next c v:=I.1;refine Calls.mono (U w v (λb o v h=>⟨CO (m.fr.gl b o v h).1 m.fr.size,m.fr.glb h⟩) ⟨d,rfl,m.sees_lies W A⟩) ?_;rintro e Y ⟨C,k,i,l,rfl,n⟩;have H:Hp w (ES g []) (Cd pl []) C k [(i,.bx (.un::tl.map .lf))] (i+1) i 0 Y:=by
  rw[si];exact⟨l.fr,l.lab,(λr p h=>H4 h (U9 _)),Cq _,l.ncle,l.roots⟩
 have B:Fy pl k S.next i S.next []=k i []:=by
  have:=Wn (pl1:=pl) (pl2:=k) (n0:=S.next) (n1:=i) (id:=i) (AE _) []
  rwa[show i-i+S.next=S.next by omega]at this
 refine⟨_,.a (.c (.pb S.next 0)),[],_,_,_,_,rfl,⟨DG _, ?_⟩,ew (E:=[]) (nC:=i+1) m H (nF:=S.next+1) (by omega) (λid D L=>by omega) m.fixle (R:=(S.next,.bx (c::tl.map .lf))::S.roots) ?_, ?_,Q⟩
 .rw[B];simp
 .intro r x s;simp only[get]at s;split at s
  .rename_i h;simp only[Ac]at s;subst s;subst h;refine⟨DG _, ?_⟩;intro j y t;have M:=(H.roots i (.bx (.un::tl.map .lf)) (by simp[get])).2;have lab:∀b o q,C b o=some (i,q)->Ho g [] S.next i C b o=some (S.next,q):=by
    intro b o q h;unfold Ho Sh;rw[h];simp
   rw[B];cases j with
   |zero=>
    simp only[AD,Ac]at t;subst t;obtain⟨u,D,_,F,G⟩:=M 0 .un rfl;exact⟨v,by simpa using n,Sf (by omega) A,lab _ _ _ F,G⟩
   |succ j=>
    simp only[AN]at t;obtain⟨u,D,L,F,G⟩:=M (j+1) y (by simpa using t);refine⟨u,D, ?_,lab _ _ _ F,G⟩;simp only[CQ,BP]at t;obtain⟨z,_,rfl⟩:=t;exact L
  have N:=(m.roots r x s).1;exact⟨G5 N,ex (E:=[]) m H (by omega) N (by simp[BJ]) s⟩
 intro z u X;exact Sf (by omega) X
def Vf(P:Program)(S:St)(f:FuncId)(a:List V)(K:V->List (Nat×Ao)->List (Nat×Root)->Nat->Prop):Prop:=
 fK P S f a K\/fM P S f a K\/nr P S f a K\/nm P S f a K
def nS{P:Program}{S:St}{f:FuncId}{c:List V}{d:List Value}{K:V->List (Nat×Ao)->List (Nat×Root)->Nat->Prop}(a:Hp w0 own0 pl0 g pl S.roots S.next S.next fix w)(b:Ai (VR pl S.next) c d)(e:Vf P S f c K):
  Calls P f d.toArray w (Rt w0 own0 pl0 pl S fix K):=by
 rcases e with h|h|h|h
 .exact xy a b h
 .exact Znh a b h
 .exact Zhq a b h
 exact yV a b h
def Vc(P:Program)(f:FuncId):Bool:=match P.funcs[f]? with
 | some fn => fn.body.isSome && fn.name != "runtime.NumGoroutine"
 |none=>false
end
end Go.Vs
