import Derived.Lib.ConvBytes
import Derived.Test.YtmfmjngkbddenaaGreatDoorVsW0
set_option linter.all false
namespace Go.Vs
variable [Glb]
variable {P:Program} {N:Nat} {w0:World} {own0:Nat->Nat->Prop} {pl0:Pls} {g:Lab} {pl:Pls} {S:St} {a:Act} {w:World} {K:V->List (Nat×Af)->List (Nat×Root)->Nat->Prop}
theorem Zvg {S:St}:∀(parts:List (Nat×Nat×Opd)) (cs out:List C),Hh S cs parts=some out->out.length=cs.length
 | [],cs,out,h=>by simp only[Hh,Ka]at h;subst h;rfl
 | (off,sz,x)::parts,cs,out,h=>by
  unfold Hh at h;split at h
  ·split at h
   ·rename_i hle;rw[Zvg parts _ out h];simp;omega
   simp at h
  simp at h
theorem Ydk {t:TypeId}{sz:Nat}:∀(parts:List (Nat×Operand)) (offs:List (Nat×Opd)),Zcb P t parts=some offs ->
  Ab (fun (p:Nat×Operand) (o:Nat×Nat×Opd)=>(fun i=>some (i*sz,sz)) p.1=some (o.1,o.2.1)/\∃tx,trO P tx p.2=some o.2.2) parts (offs.map fun x=>(x.1*sz,sz,x.2))
 | [],offs,h=>by simp only[Zcb,Ka]at h;subst h;trivial
 | (i,x)::parts,offs,h=>by
  simp only[Zcb,Kl,Kg,Ka]at h;obtain⟨y,hy,rest,hr,rfl⟩:=h;exact⟨⟨rfl,t,hy⟩,Ydk parts rest hr⟩
theorem Yx8 (hR:Rel N w0 own0 pl0 g pl S a w){t:TypeId}{len:Nat}{parts:Array (Nat×Operand)}{j:W}(ht:trW P (.buildSlice t len parts)=some j) (h:wr S K j) :
  N5 P w0 own0 pl0 pl S K (Instr.buildSlice t len (parts.map fun (i,x)=>(i,a.eval x))) w:=by
 simp only[trW]at ht;split at ht
 ·rename_i e hu;simp only[Kl,Kg]at ht;obtain⟨i,hi,z,hz,zc,hzc,ht⟩:=ht;split at ht
  ·rename_i hcond;obtain⟨hzl,h24,hpos⟩:=hcond;simp only[Kg,Ka]at ht;obtain⟨offs,hoffs,rfl⟩:=ht;have common:∀cs,Hh S (rep len zc) (offs.map fun x=>(x.1*i.size,i.size,x.2))=some cs->∃arr:Array Value,Ab (CR pl S.next) cs arr.toList/\arr.size=len*i.size/\cs.length=len*i.size/\(Instr.buildSlice t len (parts.map fun (i,x)=>(i,a.eval x))).run P w=.ok (.slice (some ⟨w.heap.size,0,none⟩) len len) (w.alloc (.cells arr e)):=by
    intro cs hcs;have hall:=Qc (pl:=pl) (nx:=S.next) hzc;have hlen:=hall.length;have hzs:z.cells.size=i.size:=by rw[<-Ksb,<-hlen,hzl]
    have hall0:Ab (CR pl S.next) (rep len zc) (madeCells z.cells (len*i.size)).toList:=by
     refine Ab.of_get (by rw[Zz0,hzl,Ksb,size_madeCells]) fun k x u hx hu=>?_;have hk:k<len*i.size:=by have:=getElem?_lt hu;simpa [size_madeCells] using this
     have hkk:k / i.size*i.size+k%i.size=k:=by rw[Kgc];exact Kie _ _
     have h1:=Zzz (l:=zc) len (k / i.size) (k%i.size) (Khe (by rw[Kgc];exact hk)) (by rw[hzl];exact Kmc _ hpos);rw[hzl,hkk,hx]at h1;obtain⟨u',e1,e2⟩:=hall.get _ _ h1.symm;have h2:=Zx3 z.cells (len*i.size) (by omega) k hk;rw[hzs]at h2;simp only[Khf]at hu e1;rw[h2,e1]at hu;simp only[Ka]at hu;subst hu;exact e2
    obtain⟨arr,hfill,harr⟩:=Zfv hR (fun k=>some (k*i.size,i.size)) parts.toList _ _ _ cs (Ydk _ _ hoffs) hall0 hcs;have hcl:cs.length=len*i.size:=by rw[Zvg _ _ _ hcs,Zz0,hzl]
    have hal:arr.size=len*i.size:=by rw[<-Ksb,<-harr.length,hcl]
    have hrun:(Instr.buildSlice t len (parts.map fun (i,x)=>(i,a.eval x))).run P w=.ok (.slice (some ⟨w.heap.size,0,none⟩) len len) (w.alloc (.cells arr e)):=by
     have hfill':Instr.fill (fun k=>some (k*i.size,i.size)) ((Array.range (len*i.size)).map (z.cells[·%z.cells.size]!)) (parts.map fun (x:Nat×Operand)=>(x.1,a.eval x.2)).toList=some arr:=by
      simpa [madeCells] using hfill
     have hnot:¬(len*i.size > 2^24):=by omega
     by_cases hl0:len*i.size=0
     ·have:madeCells z.cells (len*i.size)=(Array.range (len*i.size)).map ((#[]:Array Value)[·%(#[]:Array Value).size]!):=by rw[hl0];apply Array.ext';simp [madeCells]
      have hfill2:Instr.fill (fun k=>some (k*i.size,i.size)) ((Array.range (len*i.size)).map ((#[]:Array Value)[·%(#[]:Array Value).size]!)) (parts.map fun (x:Nat×Operand)=>(x.1,a.eval x.2)).toList=some arr:=by
       rw[<-this];simpa [madeCells] using hfill'
      simp only[Instr.buildSlice,Sem.run_bind,run_underlying hu,Result.andThen_ok,sizeOf,typeInfo,run_program,hi,Sem.run_pure];rw[if_neg hnot,if_pos hl0];simp only[Sem.run_bind,Sem.run_pure,Result.andThen_ok];rw[hfill2];simp [newRow]
     simp only[Instr.buildSlice,Sem.run_bind,run_underlying hu,Result.andThen_ok,sizeOf,typeInfo,run_program,hi,Sem.run_pure];rw[if_neg hnot,if_neg hl0];simp only[Sem.run_bind,zeroValue,typeInfo,run_program,hi,hz,Sem.run_pure,Result.andThen_ok];rw[hfill'];simp [newRow]
    exact⟨arr,harr,hal,hcl,hrun⟩
   rcases h with ⟨cs,hcs,res,hres,hK⟩|⟨cs,hcs,hK⟩
   ·obtain⟨arr,harr,hal,hcl,hrun⟩:=common cs hcs;have hfr:=hR.hp.fresh arr e len i.size hal;have hgl:=Zmm harr;have hx:=hfr.extendZ (r:=S.next) (sz:=i.size) (es:=[]) (by simp [get]) (by have:=hR.hp.fixle;omega) (Kc _) (E7 i.size len (ghs cs arr.toList)) (fun e' he'=>Yfn (by rw[hgl,hcl]) he') (by rw[Cd,Sl];simp) (by
     intro i' e' c' d he' hd;rw[Cd];simp only[Ki,Kr];obtain⟨hi',hc',hg⟩:=Yfm he' hd;obtain⟨c,u,hc1,hu1,rfl,hcr⟩:=Zv1 harr _ _ hg;refine⟨u, ?_, ?_⟩
     ·rw[World.cell?_alloc_new];simpa using hu1
     ·cases c with
      | nl s=>exact .inr ⟨s,rfl,hcr⟩
      | _=>exact .inl ⟨rfl,hcr.one⟩)
    simp only[Km,Ki]at hx;have hag0:Es S.next pl (plZ (E1 pl S.next fun _=>⟨false,w.heap.size,0,len,i.size,none⟩) S.next (E7 i.size len (ghs cs arr.toList)) 0):=by
     intro r p hr;rw[Za2 (Kc _) r p hr,Cv _ _ _ _ _ hr]
    obtain⟨g',pl',nx',a1,a2,a3,a4,a5⟩:=Zxz (R:=S.next) (sz:=i.size) (len:=len) (by have:=hR.hp.fixle;omega) (Kc _) (plI:=pl) cs arr.toList [] S.roots _ _ _ res (hx.roots_eq (by
     intro t';rw[Ax];simp only[get];split
     ·simp
     ·rfl)) (by omega) (by simp [hcl]) harr hag0 hres
    simp only[Km]at a1;have hids:∀t x,get ((S.next,Root.tr i.size (E7 i.size len res.1))::res.2) t=some x->t<S.next+1:=by
     intro t x hx;simp only[get]at hx;split at hx
     ·omega
     obtain⟨y,hy⟩:=a5 t x hx;have:=(hR.hp.roots t y hy).1;omega
    refine Py hK (v:=.slice (some ⟨w.heap.size,0,none⟩) len len) hrun ?_ ((a1.trim (n:=S.next+1) (by omega) (by have:=hR.hp.fixle;omega) hids).bump) (fun z u hk=>(hk.agree a3).mono (by omega));refine⟨by omega, ?_⟩;have:pl' S.next []=⟨false,w.heap.size,0,len,i.size,none⟩:=by rw[a4,Za3,Cd]
    exact Zcg (L:=fun _=>default) this (Kc _)
   obtain⟨arr,harr,hal,hcl,hrun⟩:=common cs hcs;have hb:=hR.hp.newBox cs arr.toList e harr;rw[show arr.toList.toArray=arr from rfl]at hb;refine⟨.slice (some ⟨w.heap.size,0,none⟩) len len,_,.sb S.next len,[],_,_,_,_,hrun,⟨Kqa _, ?_⟩,hb.bump,fun z u hk=>(hk.agree (Cv _ _ _)).mono (by omega),hK⟩;rw[Cd]
  simp at ht
 simp at ht
theorem Yb3 {s:ByteArray}{i:Nat}{e:List D}{c:Nat}{d:D}(he:(Jb s)[i]? = some e) (hd:e[c]? = some d):∃b,s.data[i]? = some b/\c=0/\d=.lf (.int .u8 b.toNat):=by
 simp only[Jb,Kba,Ks]at he;obtain⟨b,hb,rfl⟩:=he;cases c with
 | zero=>simp at hd;exact⟨b,by simpa using hb,rfl,hd.symm⟩
 | succ c=>simp at hd
theorem Zqs (s:ByteArray):(Jb s).length=s.size:=by simp [Jb]
theorem Yya (hR:Rel N w0 own0 pl0 g pl S a w){s d:TypeId}{x:Operand}{j:W}(ht:trW P (.convert s d x)=some j) (h:wr S K j) :
  N5 P w0 own0 pl0 pl S K (convert s d (a.eval x)) w:=by
 simp only[trW,Kl,Kg]at ht;obtain⟨x',hx,ht⟩:=ht;have h1:=Bk hR hx;split at ht
 ·rename_i e hs hd;split at ht
  ·rename_i he8;simp only[Ka]at ht;subst ht;simp only[wr]at h;split at h
   ·rename_i str he;rw[he]at h1;obtain⟨hv,_⟩:=Be h1;have hrun:=Lib.run_convert_string_bytes (P:=P) w s d e str hs hd he8;obtain⟨cap,hcap⟩:∃cap,cap=grownCap w str.size 0 e:=⟨_,rfl⟩;have hge:str.size<=cap:=by rw[hcap];exact grownCap_ge w str.size 0 e
    have hsz:str.data.size=str.size:=rfl;have hars:(Lib.bytesCells w e str).size=cap*1:=by simp [Lib.bytesCells,<-hcap];omega
    have hfr0:=hR.hp.fresh (Lib.bytesCells w e str) e cap 1 hars;have hnew:=Lib.bytesWorld_at_new w e str;have hcn:∀j,(Lib.bytesWorld w e str).cell? ⟨w.heap.size,j,none⟩=(Lib.bytesCells w e str)[j]?:=by
     intro j;simp [World.cell?,hnew]
    have hold:∀b o,b≠w.heap.size->(Lib.bytesWorld w e str).cell? ⟨b,o,none⟩=w.cell? ⟨b,o,none⟩/\(Lib.bytesWorld w e str).frozen? ⟨b,o,none⟩=w.frozen? ⟨b,o,none⟩:=by
     intro b o hb;rcases Kfc b w.heap.size with hlt|hge'
     ·have:=Lib.bytesWorld_at_old w e str b hlt;exact⟨World.cell?_of_block this,World.frozen?_of_block this⟩
     have h1:(Lib.bytesWorld w e str).heap[b]? = none:=Kje (by rw[Lib.bytesWorld_size];omega);have h2:w.heap[b]? = none:=Kje (by omega);simp [World.cell?,World.frozen?,h1,h2]
    have hF:Fr w0 own0 (Lib.bytesWorld w e str):=by
     have hf:=hR.hp.fr;have hs0:=hf.size;refine⟨?_, ?_, ?_,by rw[Lib.bytesWorld_size];omega,fun b hb ho=>by rw[Lib.bytesWorld_at_old w e str b (by omega)];exact hf.block b hb ho,fun b o hb ho=>by
      obtain⟨e1,e2⟩:=hold b o (by omega);rw[e1,e2];exact hf.cell b o hb ho,hf.gl⟩
     ·have:(Lib.bytesWorld w e str).os=w.os:=by unfold Lib.bytesWorld World.freeze;split<;>rfl
      rw[this];exact hf.os
     ·have:(Lib.bytesWorld w e str).tape=w.tape:=by unfold Lib.bytesWorld World.freeze;split<;>rfl
      rw[this];exact hf.tape
     have:(Lib.bytesWorld w e str).output=w.output:=by unfold Lib.bytesWorld World.freeze;split<;>rfl
     rw[this];exact hf.output
    have hfr:=hfr0.congr hF (by rw[Lib.bytesWorld_size];simp) (by
     intro b o x hx;by_cases hb:b=w.heap.size
     ·subst hb;simp only[O1,if_true]at hx;split at hx
      ·rename_i ho;rw[hcn,World.cell?_alloc_new,World.frozen?_alloc_new];refine⟨rfl, ?_⟩;simp [World.frozen?,hnew,hars];omega
      simp at hx
     ·obtain⟨e1,e2⟩:=hold b o hb;rw[e1,e2,World.cell?_alloc_old w _ _ (by simpa using hb),World.frozen?_alloc_old w _ _ (by simpa using hb)];exact⟨rfl,rfl⟩) (by
     intro b o hst;have:=hR.hp.fr.size;have hb:b≠w.heap.size:=by have:=hst.1;omega
     rw[(hold b o hb).1,World.cell?_alloc_old w _ _ (by simpa using hb)])
    have hx:=hfr.extendZ (r:=S.next) (sz:=1) (es:=[]) (by simp [get]) (by have:=hR.hp.fixle;omega) (Kc _) (Jb str) (fun e' he'=>by
     simp only[Jb,Ky]at he';obtain⟨b,_,rfl⟩:=he';rfl) (by rw[Cd,Zqs];simpa using hge) (by
     intro i' e' c' dd he' hd';obtain⟨b,hb,rfl,rfl⟩:=Yb3 he' hd';rw[Cd];have hi':=getElem?_lt he';rw[Zqs]at hi';refine⟨.int .u8 b.toNat, ?_,.inl ⟨rfl,rfl⟩⟩;simp only[Ki,Kr,Khd,Kga];rw[hcn];simp only[Lib.bytesCells];rw[Kid (by simp;omega)];simp [hb])
    simp only[Km,Ki]at hx;have hag0:Es S.next pl (plZ (E1 pl S.next fun _=>⟨false,w.heap.size,0,cap,1,none⟩) S.next (Jb str) 0):=by
     intro r p hr;rw[Za2 (Kc _) r p hr,Cv _ _ _ _ _ hr]
    refine Py h (v:=.slice (some ⟨w.heap.size,0,none⟩) str.size cap) (by rw[hv,hrun,<-hcap]) (pl':=plZ (E1 pl S.next fun _=>⟨false,w.heap.size,0,cap,1,none⟩) S.next (Jb str) 0) ⟨by omega,Zcg (L:=fun _=>default) (by rw[Za3,Cd]) hge⟩ (hx.bump.roots_eq ?_) (fun z u hk=>(hk.agree hag0).mono (by omega));intro t';rw[Ax];simp only[get];split
    ·simp
    rfl
   exact h.elim
  simp at ht
 simp at ht
end Go.Vs
namespace Go.Vs
variable [Glb]
section
variable {P:Program}
theorem Ytj {t u ty e:TypeId}{i:TypeInfo}{du:TypeDesc}(ht:P.underlying t=some (.slice e)) (hu:P.underlying u=some du) (hdu:∀k,du≠.int k) (hi:P.info? e=some i) (w:World)
  {b o n cap m:Nat} {y:Value} {news:List Value} (hlen:∀w',(Builtin.lenOf y).run P w'=.ok m w') (hfc:(Builtin.firstCells i.size m y).run P w=.ok news.toArray w)
  (hroom:n+m<=cap) (h1:∀v∈news,v.oneCell'=true) (hex:∀j,j<news.length->(∃u,w.cell? ⟨b,o+n*i.size+j,none⟩=some u)/\w.frozen? ⟨b,o+n*i.size+j,none⟩=false) :
  (Builtin.append_ #[t,u] ty #[.slice (some ⟨b,o,none⟩) n cap,y]).run P w=.ok (.slice (some ⟨b,o,none⟩) (n+m) cap) (Hv w b (o+n*i.size) news):=by
 have hst:=Zhr (P:=P) b news w (o+n*i.size) 0 h1 (by simpa using hex);simp only[Kga]at hst;have hz:(match du with|.int _=>true|_=>false)=false:=by
  cases du<;>first|rfl|exact absurd rfl (hdu _)
 simp [Builtin.append_,run_underlying ht,run_underlying hu,sizeOf,typeInfo,hi,hlen,hz,hroom,hfc,Addr.add_lit,hst]
theorem Yal {t u ty e:TypeId}{i:TypeInfo}{du:TypeDesc}(ht:P.underlying t=some (.slice e)) (hu:P.underlying u=some du) (hdu:∀k,du≠.int k) (hi:P.info? e=some i) (w:World)
  {A:Option Addr} {cap:Nat} {y:Value} (hlen:∀w',(Builtin.lenOf y).run P w'=.ok 0 w') (hfc:(Builtin.firstCells i.size 0 y).run P w=.ok #[] w) :
  (Builtin.append_ #[t,u] ty #[.slice A 0 cap,y]).run P w=.ok (.slice A 0 cap) w:=by
 have hz:(match du with|.int _=>true|_=>false)=false:=by
  cases du<;>first|rfl|exact absurd rfl (hdu _)
 cases A<;>simp [Builtin.append_,run_underlying ht,run_underlying hu,sizeOf,typeInfo,hi,hlen,hz,hfc,storeCells]
theorem Yak {t u ty e:TypeId}{i:TypeInfo}{z:Value}{du:TypeDesc}(ht:P.underlying t=some (.slice e)) (hu:P.underlying u=some du) (hdu:∀k,du≠.int k) (hi:P.info? e=some i) (hz:i.zero=some z) (hby:0<i.bytes) (w:World)
  {A:Option Addr} {n cap m:Nat} {y:Value} {olds news:List Value} (hlen:∀w',(Builtin.lenOf y).run P w'=.ok m w') (hfo:(Builtin.firstCells i.size n (.slice A n cap)).run P w.drew=.ok olds.toArray w.drew)
  (hfc:(Builtin.firstCells i.size m y).run P w.drew=.ok news.toArray w.drew) (hroom:cap<n+m) (hb:(n+m)*i.bytes<=140737488355328) :
  (Builtin.append_ #[t,u] ty #[.slice A n cap,y]).run P w=.ok (.slice (some ⟨w.heap.size,0,none⟩) (n+m) (grownCap w (n+m) cap e))
   (w.drew.alloc (.cells (olds.toArray++news.toArray++Builtin.zeroCells z.cells (grownCap w (n+m) cap e-(n+m))) e)):=by
 have hzz:(match du with|.int _=>true|_=>false)=false:=by
  cases du<;>first|rfl|exact absurd rfl (hdu _)
 have hn:¬(n+m<=cap):=by omega
 have hle:n+m<=(n+m)*i.bytes:=Nat.le_mul_of_pos_right _ hby;have h48:¬(281474976710656<Builtin.nextslicecap (n+m) cap*i.bytes):=by have:=growslice_fits hroom hb;omega
 have hb0:i.bytes≠0:=by omega
 simp [Builtin.append_,run_underlying ht,run_underlying hu,sizeOf,typeInfo,zeroValue,hi,hz,hlen,hzz,hn,hb0,h48,Question.forced,hfo,hfc,newRow,grownCap];congr 2;apply Array.ext';simp [Kva]
end
section
variable {w0:World} {own0:Nat->Nat->Prop} {pl0:Pls} {g:Lab} {pl:Pls} {roots:List (Nat×Root)} {nx nc fix:Nat} {w:World}
theorem Hp.newNil (h:Hp w0 own0 pl0 g pl roots nx nc fix w) (sz:Nat) :
  Hp w0 own0 pl0 g (E1 pl nx fun _=>⟨true,0,0,0,sz,none⟩) ((nx,.tr sz [])::roots) (nx+1) nc fix w:=by
 refine⟨h.fr,fun b o x hx=>?_,fun r p hr=>by rw[Cv pl nx _ r p (by have:=h.fixle;omega)];exact h.fixed r p hr,by have:=h.fixle;omega,by have:=h.ncle;omega, ?_⟩
 ·obtain⟨a,b',c⟩:=h.lab b o x hx;exact⟨a,b',by omega⟩
 intro r x hx;simp only[get]at hx;split at hx
 ·rename_i e;subst e;simp only[Ka]at hx;subst hx;refine⟨by omega, ?_⟩;intro p n hn;cases p with
  | nil =>
   simp only[Am,Ka]at hn;subst hn;refine⟨⟨by rw[Cd],by rw[Cd];simp,by rw[Cd];simp,by simp,by simp⟩, ?_⟩;intro j hj;rw[Cd]at hj;simp at hj
  | cons a p=>obtain⟨i,c⟩:=a;simp [Am]at hn
 obtain⟨hr,hok⟩:=h.roots r x hx;exact⟨by omega,Keep.root' ⟨fun b o q hb=>⟨hb,rfl,rfl⟩,fun _ _ _=>rfl,fun q=>Cv _ _ _ _ _ hr⟩ (fun x v k=>k.agree fun r p hr=>Cv pl nx _ r p (by have:=h.ncle;omega)) hok⟩
end
structure Appended (P:Program) (w0:World) (own0:Nat->Nat->Prop) (pl0:Pls) (g:Lab) (pl:Pls) (roots:List (Nat×Root)) (nx fix:Nat) (w:World) (sz:Nat) (es:List (List D)) (r:Option Nat) (news:List Value) (m:Nat) (s:Sem Value):Prop where
 out:∃v w1 g1 pl1,s.run P w=.ok v w1/\Hp w0 own0 pl0 g1 pl1 ((nx,.tr sz es)::D4 roots r) (nx+1) nx fix w1/\Es nx pl pl1/\Win (pl1 nx []) sz 0 (es.length+m) v /\
  (∀k u,news[k]? = some u->w1.cell? ⟨(pl1 nx []).b,(pl1 nx []).off+(es.length*sz+k),none⟩=some u) /\
  (∀b o x,g b o=some x->(∀q,r=some q->x≠(q,[]))->w1.cell? ⟨b,o,none⟩=w.cell? ⟨b,o,none⟩) /\
  (∀b o,Fj w0 own0 b o->w1.cell? ⟨b,o,none⟩=w.cell? ⟨b,o,none⟩)
theorem Zef {P:Program}{w0:World}{own0:Nat->Nat->Prop}{pl0:Pls}{g:Lab}{pl:Pls}{roots:List (Nat×Root)}{nx fix:Nat}{w:World}(h:Hp w0 own0 pl0 g pl roots nx nx fix w)
  {x:V} {xv:Value} (hx:VR pl nx x xv) {sz:Nat} {es:List (List D)} {r:Option Nat} (hb:Sf roots x=some (sz,es,r))
  {t u ty e:TypeId} {i:TypeInfo} {z:Value} {du:TypeDesc} (ht:P.underlying t=some (.slice e)) (hu:P.underlying u=some du) (hdu:∀k,du≠.int k) (hi:P.info? e=some i) (hz:i.zero=some z) (hsz:i.size=sz) (hzs:z.cells.size=sz) (hby:0<i.bytes)
  {y:Value} {m:Nat} {news:List Value} (hlen:∀w',(Builtin.lenOf y).run P w'=.ok m w') (hfc:(Builtin.firstCells i.size m y).run P w=.ok news.toArray w) (hfd:(Builtin.firstCells i.size m y).run P w.drew=.ok news.toArray w.drew)
  (hnl:news.length=m*sz) (h1:∀v∈news,v.oneCell'=true) (hbound:(es.length+m)*i.bytes<=140737488355328) :
  Appended P w0 own0 pl0 g pl roots nx fix w sz es r news m (Builtin.append_ #[t,u] ty #[xv,y]):=by
 unfold Sf at hb;split at hb
 ·-- nil
  rename_i s0;simp only[Ka,Kb]at hb;obtain⟨rfl,rfl,rfl⟩:=hb;have hxv:xv=.slice none 0 0:=hx;subst hxv;by_cases hm:m=0
  ·subst hm;have hn0:news=[]:=Kyc.1 (by simpa using hnl);subst hn0;have hN:=h.newNil s0;refine⟨_,_,_,_,Yal ht hu hdu hi w hlen hfc,hN,Cv _ _ _, ?_,by simp,fun _ _ _ _ _=>rfl,fun _ _ _=>rfl⟩;rw[Cd];exact⟨rfl,by simp,by simp,_,rfl,fun _=>by simp⟩
  have hrun:=Yak (ty:=ty) ht hu hdu hi hz hby w (A:=none) (n:=0) (cap:=0) (olds:=[]) hlen (by simp [Builtin.firstCells]) hfd (by omega) (by simpa using hbound);have hge:=grownCap_ge w (0+m) 0 e;obtain⟨gc,hgc⟩:∃gc,gc=grownCap w (0+m) 0 e:=⟨_,rfl⟩;rw[<-hgc]at hge hrun;simp only[Kr]at hge hrun;have hF:=(h.drew).fresh ((([]:List Value).toArray++news.toArray++Builtin.zeroCells z.cells (gc-m))) e gc s0 (by
   simp only[Array.size_append,Kgg,Ki,Builtin.zeroCells,Array.size_map,Array.size_range,hnl,hzs];rw[Kr,<-Kbb];congr 1;omega)
  refine⟨_,_,_,_,hrun,hF,Cv _ _ _, ?_, ?_, ?_, ?_⟩
  ·simp only[Ki,Kr];exact Zcg (L:=fun _=>default) (by rw[Cd];rfl) hge
  ·intro k v hk;rw[Cd];simp only[Ki,Nat.zero_mul,Kr];have hk':=getElem?_lt hk;rw[World.cell?_alloc_new];rw[Kid (by simp;omega)];simpa using hk
  ·intro b o q hq _;exact World.cell?_alloc_old _ _ _ (by simpa using h.lab_ne hq)
  intro b o hst;have:=h.fr.size;exact World.cell?_alloc_old _ _ _ (by simp;have:=hst.1;omega)
 ·rename_i r0 s0 n0;split at hb
  ·rename_i sz0 es0 hr;split at hb
   ·rename_i hcond;obtain⟨rfl,rfl⟩:=hcond;simp only[Ka,Kb]at hb;obtain⟨rfl,rfl,rfl⟩:=hb;obtain⟨hrn,hok⟩:=h.roots r0 _ hr;obtain⟨hc,hmi⟩:=hok [] _ rfl;have hwin:=(Be hx).2;have hv:=Zv8 hwin;obtain⟨hwsz,hwnil,hwle,_⟩:=hwin;by_cases hroom:es0.length+m<=(pl r0 []).cap
    ·cases hnn:(pl r0 []).nil with
     | true =>
      have hcap:=hwnil hnn;have hm:m=0:=by omega
      subst hm;have he0:es0=[]:=Kyc.1 (by omega);subst he0;have hn0:news=[]:=Kyc.1 (by simpa using hnl);subst hn0;have hvv:xv=.slice (pl r0 []).raw 0 (pl r0 []).cap:=by rw[hv];simp [hdr,Pl.base,hnn]
      refine⟨_,_,_,_,by rw[hvv];exact Yal ht hu hdu hi w hlen hfc,h.rename hr,Cv _ _ _, ?_,by simp,fun _ _ _ _ _=>rfl,fun _ _ _=>rfl⟩;rw[Cd];exact⟨hwsz,hwnil,by simp,_,rfl,fun _=>by simp [hnn]⟩
     | false =>
      have hvv:xv=.slice (some ⟨(pl r0 []).b,(pl r0 []).off,none⟩) es0.length (pl r0 []).cap:=by rw[hv];simp [hdr,Pl.base,hnn]
      have hfit:es0.length*sz0+news.length<=(pl r0 []).cap*sz0:=by
       rw[hnl,<-Kbb];exact Kac _ hroom
      have hown:∀j,j<news.length->(∃u,w.cell? ⟨(pl r0 []).b,(pl r0 []).off+es0.length*i.size+j,none⟩=some u)/\w.frozen? ⟨(pl r0 []).b,(pl r0 []).off+es0.length*i.size+j,none⟩=false:=by
       intro j hj;obtain⟨_,e1,e2⟩:=hmi (es0.length*sz0+j) (by rw[hwsz];omega);rw[hsz,Kgb];exact⟨e1,e2⟩
      have hsp:=Hp.setSpares hr news w (es0.length*sz0) h (Kc _) hfit;refine⟨_,_,_,_,by rw[hvv];exact Ytj ht hu hdu hi w hlen hfc hroom h1 hown,by rw[hsz];exact hsp.rename hr,Cv _ _ _, ?_, ?_, ?_, ?_⟩
      ·rw[Cd];exact⟨hwsz,hwnil,by simpa using hroom,some ⟨(pl r0 []).b,(pl r0 []).off,none⟩,by simp,fun _=>by simp [hnn]⟩
      ·intro k v hk;rw[Cd,hsz,<-Kgb];exact Zp5 _ _ _ _ (fun j hj=>by have:=(hown j hj).1;rwa [hsz]at this) k v hk
      ·intro b o q hq hne;refine Zia _ _ _ _ ?_;rintro ⟨rfl,h2,h3⟩;rw[hsz]at h2 h3;have:=hmi.lab hc (j:=o-(pl r0 []).off) (by simp only;omega);rw[show (pl r0 []).off+(o-(pl r0 []).off)=o by omega,hq]at this;simp only[Ka]at this;exact hne r0 rfl this
      intro b o hst;refine Zia _ _ _ _ ?_;rintro ⟨rfl,h2,h3⟩;rw[hsz]at h2 h3;have:=hmi.lab hc (j:=o-(pl r0 []).off) (by simp only;omega);rw[show (pl r0 []).off+(o-(pl r0 []).off)=o by omega]at this;rcases (h.lab _ _ _ this).2.1 with k|k
      ·have:=hst.1;omega
      exact hst.2 k
    -- it grows
    obtain⟨olds,hol,hoc,_⟩:∃olds:List Value,olds.length=es0.length*sz0/\(∀j v,olds[j]? = some v->w.cell? ⟨(pl r0 []).b,(pl r0 []).off+j,none⟩=some v)/\True:=by
     refine⟨(List.range (es0.length*sz0)).map fun j=>(w.cell? ⟨(pl r0 []).b,(pl r0 []).off+j,none⟩).getD undef,by simp, ?_,trivial⟩;intro j v hj;simp only[Kba,Ks]at hj;obtain⟨j',hj',rfl⟩:=hj;have:=getElem?_lt hj';simp only[Kif]at this;rw[Kpd this]at hj';simp only[Ka]at hj';subst hj';obtain⟨_,⟨v,hv⟩,_⟩:=hmi j (by rw[hwsz];have:=Kac sz0 hc.le;simp only at this;omega);rw[hv];rfl
    have hfo:(Builtin.firstCells i.size es0.length xv).run P w.drew=.ok olds.toArray w.drew:=by
     rw[hv];cases hnn:(pl r0 []).nil with
     | true =>
      have:=hwnil hnn;have he0:es0=[]:=Kyc.1 (by omega);subst he0;have:olds=[]:=Kyc.1 (by simpa using hol);subst this;cases hraw:(pl r0 []).raw<;>simp [hdr,Pl.base,hnn,hraw,Builtin.firstCells,loadCells,loadCellsFrom]
     | false =>
      simp only[hdr,Pl.base,hnn,Kka,if_false];exact run_firstCells_some (P:=P) w.drew i.size es0.length ⟨(pl r0 []).b,(pl r0 []).off,none⟩ es0.length (pl r0 []).cap olds (by rw[hol,hsz]) (fun j v hj=>by rw[Addr.add_lit];exact hoc j v hj)
    have hxs:xv=.slice (pl r0 []).base es0.length (pl r0 []).cap:=hv;have hrun:=Yak (ty:=ty) ht hu hdu hi hz hby w (A:=(pl r0 []).base) (n:=es0.length) (cap:=(pl r0 []).cap) (olds:=olds) hlen (by rw[<-hxs];exact hfo) hfd (by omega) hbound;have hge:=grownCap_ge w (es0.length+m) (pl r0 []).cap e;obtain⟨gc,hgc⟩:∃gc,gc=grownCap w (es0.length+m) (pl r0 []).cap e:=⟨_,rfl⟩;rw[<-hgc]at hge hrun;have hG:=(h.drew).grow hr (olds.toArray++news.toArray++Builtin.zeroCells z.cells (gc-(es0.length+m))) e gc (by
     simp only[Array.size_append,Kgg,Builtin.zeroCells,Array.size_map,Array.size_range,hnl,hol,hzs];rw[<-Kbb,<-Kbb];congr 1;omega) (by omega) (fun j v hj hv'=>by
      have hj':j<olds.length:=by rw[hol];exact hj
      have:=hoc j _ (Ku hj');rw[show w.drew.cell? _=w.cell? _ from rfl,this]at hv';simp only[Ka]at hv';subst hv';rw[Kid (by simp;omega),Kid (by simpa using hj')];simp [hj'])
    refine⟨_,_,_,_,by rw[hxs];exact hrun,hG,Cv _ _ _, ?_, ?_, ?_, ?_⟩
    ·refine Zcg (L:=fun _=>default) (B:=w.heap.size) ?_ hge;rw[Cd,if_pos rfl];rfl
    ·intro k v hk;rw[Cd,if_pos rfl];simp only[Kr];have hk':=getElem?_lt hk;rw[World.cell?_alloc_new];rw[Kid (by simp;omega),Array.getElem?_append_right (by simp;omega)];simpa [hol] using hk
    ·intro b o q hq _;exact World.cell?_alloc_old _ _ _ (by simpa using h.lab_ne hq)
    intro b o hst;have:=h.fr.size;exact World.cell?_alloc_old _ _ _ (by simp;have:=hst.1;omega)
   simp at hb
  simp at hb
 simp at hb
end Go.Vs
namespace Go.Vs
variable [Glb]
variable {P:Program} {N:Nat} {w0:World} {own0:Nat->Nat->Prop} {pl0:Pls} {g:Lab} {pl:Pls} {S:St} {a:Act} {w:World} {K:V->List (Nat×Af)->List (Nat×Root)->Nat->Prop}
theorem Yxu {roots:List (Nat×Root)}{nx nc fix:Nat}(h:Hp w0 own0 pl0 g pl roots nx nc fix w){ry:Nat}{py:Af}{sz:Nat}{l:List (List D)}(hn:Dr roots ry py=some (sz,l)){lo m:Nat}(hlm:lo+m<=l.length) :
  ∃news:List Value,news.length=m*sz/\(∀v∈news,v.oneCell'=true)/\(∀k v,news[k]? = some v->w.cell? ⟨(pl ry py).b,(pl ry py).off+(lo*sz+k),none⟩=some v) /\
   (∀i e c d,((l.drop lo).take m)[i]? = some e->e[c]? = some d->∃v,news[i*sz+c]? = some v/\DV (pl ry (py++[(lo+i,c)])) d v) /\
   (∀i c v,i<m->c<sz->w.cell? ⟨(pl ry py).b,(pl ry py).off+((lo+i)*sz+c),none⟩=some v->news[i*sz+c]? = some v):=by
 obtain⟨_,hc⟩:=h.node hn;have hex:∀k,k<m*sz->∃v,w.cell? ⟨(pl ry py).b,(pl ry py).off+(lo*sz+k),none⟩=some v/\v.oneCell'=true:=by
  intro k hk;have hsz:0<sz:=by
   rcases Kgf sz with h0|h0
   ·subst h0;simp at hk
   exact h0
  have hi:k / sz<m:=Khe (by rw[Kgc];exact hk);have hcs:k%sz<sz:=Kmc _ hsz;have hdm:k / sz*sz+k%sz=k:=by rw[Kgc];exact Kie _ _
  have he:=Ku (show lo+k / sz<l.length by omega);have hel:=hc.szs _ (Kaa he);have hd:=Ku (show k%sz<(l[lo+k / sz]).length by simp only at hel;omega);obtain⟨v,hv,hdv⟩:=hc.cells _ _ _ _ he hd;refine⟨v, ?_,hdv.one⟩;rw[show (lo+k / sz)*sz+k%sz=lo*sz+k by rw[Kbb];omega]at hv;exact hv
 have hget:∀k v,((List.range (m*sz)).map fun k=>(w.cell? ⟨(pl ry py).b,(pl ry py).off+(lo*sz+k),none⟩).getD undef)[k]? = some v->w.cell? ⟨(pl ry py).b,(pl ry py).off+(lo*sz+k),none⟩=some v/\v.oneCell'=true:=by
  intro k v hk;simp only[Kba,Ks]at hk;obtain⟨k',hk',rfl⟩:=hk;have:=getElem?_lt hk';simp only[Kif]at this;rw[Kpd this]at hk';simp only[Ka]at hk';subst hk';obtain⟨v,hv,h1⟩:=hex k this;rw[hv];exact⟨rfl,h1⟩
 have hmk:∀k v,k<m*sz->w.cell? ⟨(pl ry py).b,(pl ry py).off+(lo*sz+k),none⟩=some v->((List.range (m*sz)).map fun k=>(w.cell? ⟨(pl ry py).b,(pl ry py).off+(lo*sz+k),none⟩).getD undef)[k]? = some v:=by
  intro k v hk hv;simp only[Kba,Kpd hk,Kha,hv,Kub]
 refine⟨_,by simp,fun v hv=>?_,fun k v hk=>(hget k v hk).1,fun i e c d he hd=>?_,fun i c v hi hcs hv=>?_⟩
 ·obtain⟨k,hk⟩:=Klc hv;exact (hget k v hk).2
 ·have hlt:=getElem?_lt he;simp only[Kua,Kma]at hlt;have he':=Mz rfl _ _ he;obtain⟨v,hv,hdv⟩:=hc.cells _ e c d he' hd;have hb:=hc.bound he' hd;refine⟨v,hmk _ _ (lin (show i<m by omega) (Kc _) hb.2.1) ?_,hdv⟩;rw[show lo*sz+(i*sz+c)=(lo+i)*sz+c by rw[Kbb];omega];exact hv
 refine hmk _ _ (lin hi (Kc _) hcs) ?_;rw[show lo*sz+(i*sz+c)=(lo+i)*sz+c by rw[Kbb];omega];exact hv
theorem Zvl {size:Nat}{L:Pl}{lo m:Nat}{v:Value}(hv:Win L size lo m v){news:List Value}(hnl:news.length=m*size) (hpos:0<size) (hc:∀k u,news[k]? = some u->w.cell? ⟨L.b,L.off+(lo*size+k),none⟩=some u) :
  (Builtin.firstCells size m v).run P w=.ok news.toArray w:=by
 obtain⟨hsz,hnil,hle,A,rfl,hA⟩:=hv;cases A with
 | none =>
  have hm:m=0:=by
   by_cases h0:m=0
   ·exact h0
   exfalso;have:=hA (.inl (by omega));cases hq:L.nil with
   | true=>have:=hnil hq;omega
   | false=>rw[hq]at this;simp at this
  subst hm;have:news=[]:=Kyc.1 (by simpa using hnl);subst this;simp [Builtin.firstCells]
 | some A =>
  by_cases hm:m=0
  ·subst hm;have:news=[]:=Kyc.1 (by simpa using hnl);subst this;simp [Builtin.firstCells,loadCells,loadCellsFrom]
  have hA':=hA (.inl (by omega));cases hq:L.nil with
  | true=>have:=hnil hq;omega
  | false =>
   rw[hq]at hA';simp only[Kka,if_false,Ka]at hA';exact run_firstCells_some (P:=P) w size m A m _ news hnl (fun j u hj=>by rw[hA',Addr.add_lit,hsz,Kgb];exact hc j u hj)
theorem Yrb {L:Pl}{sz lo m:Nat}{v:Value}(hv:Win L sz lo m v) (w':World):(Builtin.lenOf v).run P w'=.ok m w':=by
 obtain⟨_,_,_,A,rfl,_⟩:=hv;simp [Builtin.lenOf]
theorem Yx5 (hR:Rel N w0 own0 pl0 g pl S a w){args:Array Operand}{tys:Array TypeId}{ty:TypeId}{j:W}(ht:trW P (.call { callee:=.builtin .append,args,argTypes:=tys })=some j) (h:wr S K j) :
  N5 P w0 own0 pl0 pl S K (Builtin.append_ tys ty (args.map a.eval)) w:=by
 simp only[trW]at ht;split at ht
 ·rename_i x y t u hxs hts;have hargs:args=#[x,y]:=by apply Array.ext';simpa using hxs
  have htys:tys=#[t,u]:=by apply Array.ext';simpa using hts
  subst hargs;subst htys;rw[show (#[x,y]:Array Operand).map a.eval=#[a.eval x,a.eval y] by simp];have hfix:=hR.hp.fixle;split at ht
  ·rename_i e e2 hu hu2;simp only[Kl,Kg]at ht;obtain⟨i,hi,z,hz,zc,hzc,ht⟩:=ht;split at ht
   ·rename_i hcond;obtain⟨hzl,hpos,hby⟩:=hcond;simp only[Kg,Ka]at ht;obtain⟨x',hx,y',hy,rfl⟩:=ht;have hzall:=Qc (pl:=pl) (nx:=S.next) hzc;have hzs:z.cells.size=i.size:=by rw[<-Ksb,<-hzall.length,hzl]
    have h1:=Bk hR hx;have h2:=Bk hR hy;simp only[wr]at h;obtain⟨⟨sz,es,r⟩,hb,hbs,h⟩:=h;simp only at hbs;subst hbs;simp only at h;split at h
    ·-- nothing is Zef
     rename_i s0 he;rw[he]at h2;obtain⟨hbd,h⟩:=h;have hyv:a.eval y=.slice none 0 0:=h2;have happ:=(Zef hR.hp h1 hb hu hu2 (by simp) hi hz rfl hzs hby (ty:=ty) (y:=a.eval y) (m:=0) (news:=[]) (by intro w';rw[hyv];simp [Builtin.lenOf]) (by rw[hyv];simp [Builtin.firstCells]) (by rw[hyv];simp [Builtin.firstCells]) (by simp) (by simp) (by simpa using hbd)).out;obtain⟨v,w1,g1,pl1,hrun,hp,hag,hwin,_⟩:=happ;exact Py h hrun ⟨by omega,by simpa using hwin⟩ hp.bump (fun z u hk=>(hk.agree hag).mono (by omega))
    ·rename_i ry py sz' lo m he;rw[he]at h2;obtain⟨hryn,hwiny⟩:=Be h2;obtain⟨rfl,hne,hbound,l,hl,hlm,hK⟩:=h;rw[Ra]at hl;obtain⟨news,hnl,hone,hnc,hnE,hnN⟩:=Yxu hR.hp hl hlm;have happ:=(Zef hR.hp h1 hb hu hu2 (by simp) hi hz rfl hzs hby (ty:=ty) (y:=a.eval y) (m:=m) (news:=news) (Yrb hwiny) (Zvl hwiny hnl hpos hnc) (Zvl hwiny hnl hpos hnc) hnl hone hbound).out;obtain⟨v,w1,g1,pl1,hrun,hp,hag,hwin,hnew,hkeep,hst⟩:=happ;have hEl:((l.drop lo).take m).length=m:=by simp;omega
     obtain⟨_,hcy⟩:=hR.hp.node hl;rcases hK with ⟨hlf,hK⟩|⟨sz0,es0,hry,hK⟩
     ·have hx:=hp.extendZ (r:=S.next) (sz:=i.size) (es:=es) (by simp [get]) hfix (Kc _) ((l.drop lo).take m) (fun e he=>hcy.szs e (Kkb (Kjb he))) (by rw[hEl];exact (by have:=hwin.2.2.1;omega)) (by
       intro i' e' c' d he' hd;obtain⟨v,hv,hdv⟩:=hnE i' e' c' d he' hd;have hlf':=Kna.1 (Kna.1 hlf e' (Kaa he')) d (Kaa hd);cases d with
       | lf x =>
        obtain⟨rfl,h1'⟩:=hdv;refine⟨v, ?_,.inl ⟨rfl,h1'⟩⟩;rw[show (es.length+i')*i.size+c'=es.length*i.size+(i'*i.size+c') by rw[Kbb];omega];exact hnew _ _ hv
       | sl s es'=>simp [Zgg]at hlf'
       | hole=>simp [Zgg]at hlf')
      have hag2:Es S.next pl (plZ pl1 S.next ((l.drop lo).take m) es.length):=fun r p hr=>by rw[Za2 (Kc _) r p hr];exact hag r p hr
      refine Py hK hrun ⟨by omega, ?_⟩ (hx.bump.roots_eq ?_) (fun z u hk=>(hk.agree hag2).mono (by omega))
      ·rw[Za3];exact hwin
      intro t';rw[Ax];simp only[get];split
      ·rfl
      rfl
     have hry':get (D4 S.roots r) ry=some (.tr sz0 es0):=by
      cases r with
      | none=>exact hry
      | some r=>simp only[D4];rw[Hj,if_neg (by intro e;exact hne (by rw[e]))];exact hry
     have hpy:Am sz0 es0 py=some (i.size,l):=by unfold Dr at hl;rw[hry]at hl;exact hl
     have hmy:=((hR.hp.roots ry _ hry).2 py _ hpy).2;have hx:=hp.extendMove (R:=S.next) (sz:=i.size) (es:=es) (by simp [get]) hfix (Kc _) (ry:=ry) (by omega) (py:=py) (sz0:=sz0) (es0:=es0) (by simp only[get];rw[if_neg (by omega)];exact hry') hpy hlm (by have:=hwin.2.2.1;omega) (by
      intro i' c' v hi' hc' hv;rw[hag ry py hryn]at hv;have hbd:(lo+i')*i.size+c'<(pl ry py).cap*i.size:=lin (show lo+i'<l.length by omega) hcy.le hc';rw[hkeep _ _ _ (hmy.lab hcy hbd) (by rintro q hq e;rw[Kb]at e;exact hne (by rw[hq,e.1]))]at hv;rw[show (es.length+i')*i.size+c'=es.length*i.size+(i'*i.size+c') by rw[Kbb];omega];exact hnew _ _ (hnN i' c' v hi' hc' hv))
     have hag2:Es S.next pl (Ig pl1 ry py lo S.next es.length):=fun r p hr=>by
      unfold Ig;rw[if_neg (by omega)];exact hag r p hr
     refine Py hK hrun ⟨by omega, ?_⟩ (hx.bump.roots_eq ?_) (fun z u hk=>(hk.agree hag2).mono (by omega))
     ·have:Ig pl1 ry py lo S.next es.length S.next []=pl1 S.next []:=by unfold Ig;simp
      rw[this];exact hwin
     intro t';rw[Ax,Ax];simp only[get];split
     ·rfl
     rw[Ax]
    exact h.elim
   simp at ht
  ·rename_i e hu hu2;simp only[Kl,Kg]at ht;obtain⟨i,hi,z,hz,zc,hzc,ht⟩:=ht;split at ht
   ·rename_i hcond;obtain⟨hzl,hsz1,hby⟩:=hcond;simp only[Kg,Ka]at ht;obtain⟨x',hx,y',hy,rfl⟩:=ht;have hzall:=Qc (pl:=pl) (nx:=S.next) hzc;have hzs:z.cells.size=1:=by rw[<-Ksb,<-hzall.length,hzl]
    have h1:=Bk hR hx;have h2:=Bk hR hy;simp only[wr]at h;obtain⟨⟨sz,es,r⟩,hb,hbs,h⟩:=h;simp only at hbs;subst hbs;simp only at h;split at h
    ·rename_i str he;rw[he]at h2;obtain⟨hyv,_⟩:=Be h2;obtain⟨hbound,hK⟩:=h;have hfc:∀w',(Builtin.firstCells i.size str.size (a.eval y)).run P w'=.ok (str.data.toList.map fun b=>Value.int .u8 b.toNat).toArray w':=by
      intro w';rw[hyv];simp only[Builtin.firstCells,Sem.run_pure];congr 1;apply Array.ext';simp
     have happ:=(Zef hR.hp h1 hb hu hu2 (by simp) hi hz hsz1 hzs (by omega) (ty:=ty) (y:=a.eval y) (m:=str.size) (news:=str.data.toList.map fun b=>Value.int .u8 b.toNat) (by intro w';rw[hyv];simp [Builtin.lenOf]) (hfc w) (hfc w.drew) (by simp) (by
      intro v hv;simp only[Ky]at hv;obtain⟨b,_,rfl⟩:=hv;rfl) (by rw[hby,Khd];exact hbound)).out
     obtain⟨v,w1,g1,pl1,hrun,hp,hag,hwin,hnew,hkeep,hst⟩:=happ;have hx:=hp.extendZ (r:=S.next) (sz:=1) (es:=es) (by simp [get]) hfix (Kc _) (Jb str) (fun e he=>by
      simp only[Jb,Ky]at he;obtain⟨b,_,rfl⟩:=he;rfl) (by rw[Zqs];exact (by have:=hwin.2.2.1;omega)) (by
      intro i' e' c' d he' hd;obtain⟨b,hb,rfl,rfl⟩:=Yb3 he' hd;refine⟨.int .u8 b.toNat, ?_,.inl ⟨rfl,rfl⟩⟩;have:=hnew i' (.int .u8 b.toNat) (by simp [hb]);simpa using this)
     have hag2:Es S.next pl (plZ pl1 S.next (Jb str) es.length):=fun r p hr=>by rw[Za2 (Kc _) r p hr];exact hag r p hr
     refine Py hK hrun ⟨by omega, ?_⟩ (hx.bump.roots_eq ?_) (fun z u hk=>(hk.agree hag2).mono (by omega))
     ·rw[Za3];exact hwin
     intro t';rw[Ax];simp only[get];split
     ·rfl
     rfl
    exact h.elim
   simp at ht
  simp at ht
 simp at ht
theorem Yr0 {sz:Nat}{es:List (List D)}{k:Nat}{q:Af}{m:Nat×List (List D)}(h:Am sz (es.take k) q=some m):(q=[]/\m=(sz,es.take k))\/Am sz es q=some m:=by
 cases q with
 | nil=>simp only[Am,Ka]at h;exact .inl ⟨rfl,h.symm⟩
 | cons a q =>
  obtain⟨i,c⟩:=a;right;unfold Am at h ⊢;rw[Kwa]at h;by_cases hi:i<k
  ·rw[if_pos hi]at h;exact h
  rw[if_neg hi]at h;simp at h
theorem Hp.shrink {roots:List (Nat×Root)}{nx nc fix:Nat}(h:Hp w0 own0 pl0 g pl roots nx nc fix w){r sz:Nat}{es:List (List D)}(hr:get roots r=some (.tr sz es)) (k:Nat) :
  Hp w0 own0 pl0 g pl (put roots r (.tr sz (es.take k))) nx nc fix w:=by
 refine⟨h.fr,h.lab,h.fixed,h.fixle,h.ncle, ?_⟩;intro r' x hx;rw[Ax]at hx;split at hx
 ·rename_i e;subst e;simp only[Ka]at hx;subst hx;obtain⟨hrn,hok⟩:=h.roots r _ hr;refine⟨hrn, ?_⟩;intro q m hq;rcases Yr0 hq with ⟨rfl,rfl⟩|hq
  ·obtain⟨hc,hm⟩:=hok [] _ rfl;refine⟨⟨hc.szp,Kla (by simp;omega) hc.le,hc.nil,fun e he=>hc.szs e (Kjb he),fun i e c d he hd=>?_⟩,hm⟩;rw[Kwa]at he;split at he
   ·exact hc.cells i e c d he hd
   simp at he
  exact hok q m hq
 exact h.roots r' x hx
theorem Hp.extendH {roots:List (Nat×Root)}{nx nc fix:Nat}(h:Hp w0 own0 pl0 g pl roots nx nc fix w){r sz:Nat}{es:List (List D)}(hr:get roots r=some (.tr sz es)) (N:List (List D)) (hsz:∀e∈N,e.length=sz) (hle:es.length+N.length<=(pl r []).cap)
  (hN:∀(i:Nat) (e:List D) (c:Nat) (d:D),N[i]? = some e->e[c]? = some d->∃v,w.cell? ⟨(pl r []).b,(pl r []).off+((es.length+i)*sz+c),none⟩=some v/\v.oneCell'=true/\(d=.lf v\/d=.hole)) :
  Hp w0 own0 pl0 g pl (put roots r (.tr sz (es++N))) nx nc fix w:=by
 refine⟨h.fr,h.lab,h.fixed,h.fixle,h.ncle, ?_⟩;intro r' x hx;rw[Ax]at hx;split at hx
 ·rename_i e;subst e;simp only[Ka]at hx;subst hx;obtain⟨hrn,hok⟩:=h.roots r _ hr;refine⟨hrn, ?_⟩;intro q m hq;cases q with
  | nil =>
   simp only[Am,Ka]at hq;subst hq;obtain⟨hc,hm⟩:=hok [] _ rfl;refine⟨⟨hc.szp,by simpa using hle,hc.nil, ?_, ?_⟩,hm⟩
   ·intro e he;simp only[Kca]at he;rcases he with he|he
    ·exact hc.szs e he
    exact hsz e he
   intro i e c d he hd;by_cases hi:i<es.length
   ·rw[Ksa hi]at he;exact hc.cells i e c d he hd
   rw[Kia (by omega)]at he;obtain⟨v,hv,h1,hk⟩:=hN _ e c d he hd;rw[show es.length+(i-es.length)=i by omega]at hv;refine⟨v,hv, ?_⟩;rcases hk with rfl|rfl
   ·exact⟨rfl,h1⟩
   exact h1
  | cons a q =>
   obtain⟨i,c⟩:=a;unfold Am at hq;by_cases hi:i<es.length
   ·rw[Ksa hi]at hq;exact hok ((i,c)::q) m (by unfold Am;exact hq)
   rw[Kia (by omega)]at hq;split at hq
   ·rename_i sz' es' hb;simp only[Kg]at hb;obtain⟨e,he,hd⟩:=hb;obtain⟨v,hv,h1,hk⟩:=hN _ e c _ he hd;rcases hk with hk|hk<;>cases hk
   simp at hq
 exact h.roots r' x hx
theorem Ydz {pl:Pls}{nx:Nat}:∀{cs:List C}{vs:List Value},Ab (CR pl nx) cs vs->∀(c:Nat) (d:D) (v:Value),(cs.map Zi4)[c]? = some d->vs[c]? = some v->v.oneCell'=true/\(d=.lf v\/d=.hole)
 | [],[],_,c,d,v,h,_=>by simp at h
 | x::cs,u::vs,h,0,d,v,h1,h2=>by
  simp only[Ke,Kv,Ka]at h1 h2;subst h1 h2;refine⟨CR.one h.1, ?_⟩;cases x with
  | lf y=>obtain⟨e,_⟩:=h.1;subst e;exact .inl rfl
  | _=>exact .inr rfl
 | x::cs,u::vs,h,c+1,d,v,h1,h2=>Ydz h.2 c d v (by simpa using h1) (by simpa using h2)
 | [],_::_,h,_,_,_,_,_=>h.elim
 | _::_,[],h,_,_,_,_,_=>h.elim
theorem Yx7 (hR:Rel N w0 own0 pl0 g pl S a w){args:Array Operand}{tys:Array TypeId}{ty:TypeId}{j:W}(ht:trW P (.call { callee:=.builtin .clear,args,argTypes:=tys })=some j) (h:wr S K j) :
  N5 P w0 own0 pl0 pl S K (Builtin.clear_ tys ty (args.map a.eval)) w:=by
 simp only[trW]at ht;split at ht
 ·rename_i x t hxs hts;have hargs:args=#[x]:=by apply Array.ext';simpa using hxs
  have htys:tys=#[t]:=by apply Array.ext';simpa using hts
  subst hargs;subst htys;rw[show (#[x]:Array Operand).map a.eval=#[a.eval x] by simp];split at ht
  ·rename_i e hu;simp only[Kl,Kg]at ht;obtain⟨i,hi,z,hz,zc,hzc,ht⟩:=ht;split at ht
   ·rename_i hcond;obtain⟨hzl,hpos⟩:=hcond;simp only[Kg,Ka]at ht;obtain⟨x',hx,rfl⟩:=ht;have hall:=Qc (pl:=pl) (nx:=S.next) hzc;have hzs:z.cells.size=i.size:=by rw[<-Ksb,<-hall.length,hzl]
    have h1:=Bk hR hx;simp only[wr]at h;split at h
    ·rename_i r sz' lo n he;rw[he]at h1;obtain⟨hrn,hsz,hnil,hle,A,hv,hA⟩:=Be h1;obtain⟨rfl,es,hr,hln,hK⟩:=h;have hsh:=hR.hp.shrink hr lo;by_cases hn:n=0
     ·subst hn;have hK0:K .un [] (put S.roots r (.tr i.size (es.take lo))) S.next:=by simpa using hK
      refine⟨.tuple #[],w,.un,[],_,_,_,_, ?_,trivial,hsh,fun _ _ h=>h,hK0⟩;rw[hv];cases A<;>simp [Builtin.clear_,run_underlying hu]
     obtain⟨_,hok⟩:=hR.hp.roots r _ hr;obtain⟨hc,hm⟩:=hok [] _ rfl;have hle':=hc.le;have hA':=hA (.inl (by simp only at hle';omega));have hq:(pl r []).nil=false:=by
      cases hq:(pl r []).nil with
      | true=>have:=hnil hq;omega
      | false=>rfl
     rw[hq]at hA';simp only[Kka,if_false]at hA';subst hA';have hzn:(Builtin.zeroCells z.cells n).size=n*i.size:=by simp [Builtin.zeroCells,hzs]
     have hlen:(Builtin.zeroCells z.cells n).toList.length=n*i.size:=by rw[Ksb,hzn]
     have hone:∀v∈(Builtin.zeroCells z.cells n).toList,v.oneCell'=true:=by
      intro v hv;simp only[Builtin.zeroCells,Array.toList_map,Ky]at hv;obtain⟨k,_,rfl⟩:=hv;have hk:k%z.cells.size<z.cells.size:=Kmc _ (by rw[hzs];exact hpos);rw[getElem!_pos z.cells _ hk];exact Zea hall _ (by simp)
     have hbound:(lo+n)*i.size<=(pl r []).cap*i.size:=Kac _ (by simp only at hle';omega);have hex:∀j,j<(Builtin.zeroCells z.cells n).toList.length->∃u,w.cell? ⟨(pl r []).b,(pl r []).off+lo*(pl r []).sz+(0+j),none⟩=some u/\w.frozen? ⟨(pl r []).b,(pl r []).off+lo*(pl r []).sz+(0+j),none⟩=false:=by
      intro j hj;rw[hlen]at hj;obtain⟨_,k1,k2⟩:=hm (lo*i.size+j) (by rw[hsz];rw[Kbb]at hbound;omega);rw[hsz];simp only[Kr,Kgb]at k1 k2 ⊢;obtain⟨u,hu⟩:=k1;exact⟨u,hu,k2⟩
     have hst:=Zhr (P:=P) (pl r []).b (Builtin.zeroCells z.cells n).toList w ((pl r []).off+lo*(pl r []).sz) 0 hone (by simpa using hex);have hsp:=Hp.setSpares (roots:=put S.roots r (.tr i.size (es.take lo))) (r:=r) (sz:=i.size) (es:=es.take lo) (by rw[Ax,if_pos rfl]) (Builtin.zeroCells z.cells n).toList w (lo*i.size) hsh (by simp;exact Kac _ (by omega)) (by rw[hlen,<-Kbb];exact hbound);have hlo:(es.take lo).length=lo:=by simp;omega
     have hxx:=hsp.extendH (r:=r) (sz:=i.size) (es:=es.take lo) (by rw[Ax,if_pos rfl]) (List.replicate n (zc.map Zi4)) (by
      intro e he;rw[Kfg he,Ko,hzl]) (by rw[hlo,List.length_replicate];simp only at hle';omega) (by
      intro i' e c d he hd;rw[Keg]at he;split at he
      ·rename_i hin;simp only[Ka]at he;subst he;have hcl:c<i.size:=by
        have:=(Kfa.1 hd).1;simp only[Ko,hzl]at this;exact this
       have hidx:i'*i.size+c<n*i.size:=by
        have:=Kac i.size (show i'+1<=n by omega);rw[Kbb]at this;omega
       have hmod:(i'*i.size+c)%i.size=c:=by rw[Kgc,Nat.mul_add_mod,Kpc hcl]
       have hzv:(Builtin.zeroCells z.cells n).toList[i'*i.size+c]? = z.cells.toList[c]?:=by
        have hc2:c<z.cells.size:=by rw[hzs];exact hcl
        simp only[Builtin.zeroCells,hzs,Array.toList_map,Kba,Array.toList_range];rw[Kpd (by rw[Kgc]at hidx;first|exact hidx|(rw[Kgc];exact hidx))];simp only[Kha,hmod];rw[getElem!_pos z.cells c hc2,Khf,Kcd hc2]
       obtain⟨v,hv'⟩:∃v,z.cells.toList[c]? = some v:=by
        have hc2:c<z.cells.toList.length:=by rw[Ksb,hzs];exact hcl
        exact⟨_,Ku hc2⟩
       have hin2:=Zp5 (pl r []).b (Builtin.zeroCells z.cells n).toList w ((pl r []).off+lo*i.size) (by
        intro j hj;obtain⟨u,hu,_⟩:=hex j hj;rw[Kr,hsz]at hu;exact⟨u,hu⟩) (i'*i.size+c) v (by rw[hzv];exact hv')
       obtain⟨o1,o2⟩:=Ydz hall c d v hd hv';refine⟨v, ?_,o1,o2⟩;rw[hlo,show (pl r []).off+((lo+i')*i.size+c)=(pl r []).off+lo*i.size+(i'*i.size+c) by rw[Kbb];omega];exact hin2
      ·simp at he)
     refine⟨.tuple #[],_,.un,[],_,_,_,_, ?_,trivial,hxx.roots_eq ?_,fun _ _ h=>h,hK⟩
     rotate_left
     ·intro t';rw[Ax,Ax];split
      ·rfl
      rw[Ax];split
      ·rename_i h1 h2;exact absurd h2 h1
      rfl
     rw[hv];have hn0:n≠0:=hn;simp only[hsz,Kga]at hst;cases n with
     | zero=>exact absurd rfl hn0
     | succ n=>simp [Builtin.clear_,run_underlying hu,zeroValue,typeInfo,hi,hz,hst,hsz]
    ·rename_i s0 he;rw[he]at h1;have hxv:a.eval x=.slice none 0 0:=h1;refine⟨.tuple #[],w,.un,[],_,_,_,_, ?_,trivial,hR.hp,fun _ _ h=>h,h⟩;rw[hxv];simp [Builtin.clear_,run_underlying hu]
    exact h.elim
   simp at ht
  simp at ht
 simp at ht
end Go.Vs
namespace Go.Vs
variable [Glb]
inductive Arg where
 | val (ag:Bool) (cs:List (M×D))
 | ptr (cs:List (M×D))
 deriving Inhabited
def Arg.cells:Arg->List (M×D)
 | .val _ l=>l
 | .ptr l=>l
def flat (as:List Arg):List (M×D):=as.flatMap Arg.cells
structure Out where
 res:List (Bool×List D)
 io:List (Nat×List (List D))
 bx:List (List D)
 deriving Inhabited
abbrev Kk:=Nat×Nat
def inC (m:M) (d:D) (k:Kk):C×List (Nat×Root)×Kk :=
 match d with
 | .lf v=>(.lf v,[],k)
 | .hole=>(.un,[],k)
 | .sl sz es=>match m with
  | .io=>(.rf k.1 [] sz 0 es.length,[(k.1,.tr sz es)],(k.1+1,k.2))
  | .ow=>(.rf k.2 [] sz 0 es.length,[(k.2,.tr sz es)],(k.1,k.2+1))
  | .rd=>(.rf k.2 [] sz 0 es.length,[(k.2,.im sz es)],(k.1,k.2+1))
  | .rx=>(.rf k.1 [] sz 0 es.length,[(k.1,.im sz es)],(k.1+1,k.2))
def Au:List (M×D)->Kk->List C×List (Nat×Root)×Kk
 | [],k=>([],[],k)
 | (m,d)::l,k=>((inC m d k).1::(Au l (inC m d k).2.2).1,(inC m d k).2.1++(Au l (inC m d k).2.2).2.1,(Au l (inC m d k).2.2).2.2)
def Qn:M×D->Nat
 | (.io,.sl _ _)=>1
 | (.rx,.sl _ _)=>1
 | _=>0
def C8:List (M×D)->Nat
 | []=>0
 | x::l=>Qn x+C8 l
def I4:List Arg->Nat
 | []=>0
 | .ptr _::l=>I4 l+1
 | _::l=>I4 l
def B3 (as:List Arg):Nat:=C8 (flat as)+I4 as
def inV:List Arg->List C->Nat->List V
 | [],_,_=>[]
 | .val false l::r,cs,b=>(match cs.take l.length with|[c]=>.a (.c c)|_=>.un)::inV r (cs.drop l.length) b
 | .val true l::r,cs,b=>.a (.ag (cs.take l.length))::inV r (cs.drop l.length) b
 | .ptr l::r,cs,b=>.a (.c (.pb b 0))::inV r (cs.drop l.length) (b+1)
def inB:List Arg->List C->List (List (M×D)×List C)
 | [],_=>[]
 | .val _ l::r,cs=>inB r (cs.drop l.length)
 | .ptr l::r,cs=>(l,cs.take l.length)::inB r (cs.drop l.length)
def I7:List (List (M×D)×List C)->Nat->List (Nat×Root)
 | [],_=>[]
 | x::l,b=>(b,.bx x.2)::I7 l (b+1)
def Ca (as:List Arg):List C×List (Nat×Root)×Kk:=Au (flat as) (0,B3 as)
def Bm (as:List Arg):List V×List (Nat×Root)×Nat :=
 (inV as (Ca as).1 (C8 (flat as)),(Ca as).2.1++I7 (inB as (Ca as).1) (C8 (flat as)),(Ca as).2.2.2)
def H8:List (M×D)->Nat->List (Nat×Nat×Nat)
 | [],_=>[]
 | (.io,.sl sz es)::l,k=>(k,sz,es.length)::H8 l (k+1)
 | (.rx,.sl _ _)::l,k=>H8 l (k+1)
 | _::l,k=>H8 l k
def Dn:A->Bool×List C
 | .c x=>(false,[x])
 | .ag cs=>(true,cs)
def J8:V->Option (List A)
 | .a x=>some [x]
 | .tp [_]=>none
 | .tp xs=>some xs
 | _=>none
def Ej:M×D->Bool
 | (.rx,.sl _ _)=>true
 | _=>false
def D2 {α:Type}:List (M×D)->List α->List α
 | x::l,c::cs=>if Ej x then D2 l cs else c::D2 l cs
 | _,_=>[]
def Ih:List (M×D)->List C->List C->Prop
 | x::l,c::c0,y::c1=>(Ej x=true->y=c)/\Ih l c0 c1
 | [],[],[]=>True
 | _,_,_=>False
def Hz (as:List Arg) (out:Out) (roots:List (Nat×Root)) (res:V):Prop :=
 ∃xs,J8 res=some xs/\xs.map (fun x=>((Dn x).1,(Dn x).2.length))=out.res.map (fun x=>(x.1,x.2.length)) /\
 ∃bxs:List (List C),Ab (fun x ys=>Ih x.1 x.2 ys) (inB as (Ca as).1) bxs/\(∀(j:Nat) (ys:List C),bxs[j]? = some ys->get roots (C8 (flat as)+j)=some (.bx ys)) /\
 ∃rt,Cx roots ((xs.flatMap fun x=>(Dn x).2)++(((inB as (Ca as).1).zip bxs).flatMap fun x=>D2 x.1.1 x.2))=some ((out.res.flatMap (·.2))++out.bx.flatten,rt) /\
  ((inB as (Ca as).1).zip bxs).map (fun x=>(D2 x.1.1 x.2).length)=out.bx.map (·.length) /\
  Ab (fun (x:Nat×Nat×Nat) (o:Nat×List (List D))=>get rt x.1=some (.tr o.1 o.2)/\o.1=x.2.1/\o.2.length=x.2.2) (H8 (flat as) 0) out.io
def Ir (P:Program) (f:FuncId) (as:List Arg) (out:Out):Prop :=
 ∀(w:World) (own:Nat->Nat->Prop) (g:Lab) (pl:Pls) (vs:List Value),
  Hp w own pl g pl (Bm as).2.1 (Bm as).2.2 (Bm as).2.2 (B3 as) w ->
  Ab (VR pl (Bm as).2.2) (Bm as).1 vs ->
  Calls P f vs.toArray w fun e w'=>∃rv g' pl' roots nx res,e=.returned rv/\Hp w own pl g' pl' roots nx nx (B3 as) w'/\VR pl' nx res rv/\Hz as out roots res
def Lk:List C->List (M×D)->Option (List (M×C×D))
 | [],[]=>some []
 | c::cs,(m,d)::l=>(Lk cs l).map ((m,c,d)::·)
 | _,_=>none
def Qp (roots:List (Nat×Root)):V->Arg->Option (List (M×C×D))
 | .a (.c x),.val false l=>Lk [x] l
 | .a (.ag cs),.val true l=>Lk cs l
 | .a (.c (.pb r c)),.ptr l=>match get roots r with
  | some (.bx cs)=>if c+l.length<=cs.length then Lk ((cs.drop c).take l.length) l else none
  | _=>none
 | _,_=>none
def Hi (roots:List (Nat×Root)):List V->List Arg->Option (List (M×C×D))
 | [],[]=>some []
 | v::vs,x::as=>match Qp roots v x,Hi roots vs as with
  | some a,some b=>some (a++b)
  | _,_=>none
 | _,_=>none
def Jq:M×C×D->Bool
 | (.ow,_,_)=>true
 | _=>false
def Bl:List (M×C×D)->List Nat
 | []=>[]
 | (.io,.rf r _ _ _ _,.sl _ _)::l=>r::Bl l
 | _::l=>Bl l
def Bf:List V->List Arg->List (Nat×Nat×Nat)
 | .a (.c (.pb r c))::vs,.ptr l::as=>(r,c,l.length)::Bf vs as
 | _::vs,_::as=>Bf vs as
 | _,_=>[]
def Zbq (roots:List (Nat×Root)) (hand:List Nat):M×C×D->Prop
 | (.ow,_,_)=>True
 | (_,c,.lf v)=>c=.lf v
 | (_,_,.hole)=>True
 | (m,.nl s,.sl sz es)=>s=sz/\es=[]
 | (.io,.rf r p s lo n,.sl sz es)=>s=sz/\lo=0/\n=es.length/\∃sz0 es0,get roots r=some (.tr sz0 es0)/\Am sz0 es0 p=some (sz,es)
 | (_,.rf r p s lo n,.sl sz es)=>s=sz/\(lo=0\/0<n)/\r ∉ hand/\∃l,Dr roots r p=some (sz,l)/\lo+n<=l.length/\es=(l.drop lo).take n
 | _=>False
def B2:List (Nat×Root)->List (M×C×D)->List (Nat×List (List D))->Option (List (Nat×Root))
 | roots,[],[]=>some roots
 | roots,(.io,.rf r p _ _ _,.sl _ _)::l,(_,es)::o=>match get roots r with
  | some (.tr sz0 es0)=>B2 (put roots r (.tr sz0 (D0 es0 p fun _=>es))) l o
  | _=>none
 | roots,(.io,.nl _,.sl _ _)::l,_::o=>B2 roots l o
 | _,(.io,_,.sl _ _)::_,_=>none
 | roots,_::l,o=>B2 roots l o
 | _,_,_=>none
def Ap:List D->Nat->List C×List (Nat×Root)×Nat
 | [],n=>([],[],n)
 | .lf v::l,n=>(.lf v::(Ap l n).1,(Ap l n).2)
 | .hole::l,n=>(.un::(Ap l n).1,(Ap l n).2)
 | .sl sz es::l,n=>(.rf n [] sz 0 es.length::(Ap l (n+1)).1,(n,.tr sz es)::(Ap l (n+1)).2.1,(Ap l (n+1)).2.2)
def O4 (ag:Bool) (cs:List C):A:=if ag then .ag cs else match cs with|[c]=>.c c|_=>.ag []
def Gh:List (Bool×List D)->List C->List A
 | [],_=>[]
 | (ag,ds)::l,cs=>O4 ag (cs.take ds.length)::Gh l (cs.drop ds.length)
def Ia:List (M×D)->List C->List C->List C
 | x::l,c::c0,ys=>if Ej x then c::Ia l c0 ys else match ys with
  | y::ys=>y::Ia l c0 ys
  | []=>c::Ia l c0 []
 | _,_,_=>[]
def He:List (Nat×Root)->List V->List Arg->List (List D)->List C->Option (List (Nat×Root))
 | roots,.a (.c (.pb r c))::vs,.ptr l::as,ds::o,ys=>match get roots r with
  | some (.bx cs)=>He (put roots r (.bx (cs.take c++(Ia l ((cs.drop c).take l.length) (ys.take ds.length)++cs.drop (c+l.length))))) vs as o (ys.drop ds.length)
  | _=>none
 | _,_::_,.ptr _::_,_,_=>none
 | roots,_::vs,_::as,o,ys=>He roots vs as o ys
 | roots,_,_,_,_=>some roots
def Fc:List A->V
 | [x]=>.a x
 | xs=>.tp xs
def Zko (P:Program) (S:St) (f:FuncId) (vs:List V) (K:V->List (Nat×Af)->List (Nat×Root)->Nat->Prop):Prop :=
 ∃as out,Ir P f as out/\∃fl,Hi S.roots vs as=some fl/\∃rt,Cx S.roots ((fl.filter Jq).map (·.2.1))=some ((fl.filter Jq).map (·.2.2),rt) /\
  (Bl fl++(Bf vs as).map (·.1)).Nodup/\(∀x∈fl,Zbq rt (Bl fl++(Bf vs as).map (·.1)) x) /\
  ∃r1,B2 rt fl out.io=some r1/\∃r2,He r1 vs as out.bx ((Ap (out.res.flatMap (·.2)++out.bx.flatten) S.next).1.drop (out.res.flatMap (·.2)).length)=some r2 /\
  K (Fc (Gh out.res (Ap (out.res.flatMap (·.2)++out.bx.flatten) S.next).1)) [] ((Ap (out.res.flatMap (·.2)++out.bx.flatten) S.next).2.1++r2) (Ap (out.res.flatMap (·.2)++out.bx.flatten) S.next).2.2
def Y3 (C:List Value->World->(Ending->World->Prop)->Prop) (as:List Arg) (out:Out):Prop :=
 ∀(w:World) (own:Nat->Nat->Prop) (g:Lab) (pl:Pls) (vs:List Value),
  Hp w own pl g pl (Bm as).2.1 (Bm as).2.2 (Bm as).2.2 (B3 as) w ->
  Ab (VR pl (Bm as).2.2) (Bm as).1 vs ->
  C vs w fun e w'=>∃rv g' pl' roots nx res,e=.returned rv/\Hp w own pl g' pl' roots nx nx (B3 as) w'/\VR pl' nx res rv/\Hz as out roots res
def Zkp (C:List Value->World->(Ending->World->Prop)->Prop) (S:St) (vs:List V) (K:V->List (Nat×Af)->List (Nat×Root)->Nat->Prop):Prop :=
 ∃as out,Y3 C as out/\∃fl,Hi S.roots vs as=some fl/\∃rt,Cx S.roots ((fl.filter Jq).map (·.2.1))=some ((fl.filter Jq).map (·.2.2),rt) /\
  (Bl fl++(Bf vs as).map (·.1)).Nodup/\(∀x∈fl,Zbq rt (Bl fl++(Bf vs as).map (·.1)) x) /\
  ∃r1,B2 rt fl out.io=some r1/\∃r2,He r1 vs as out.bx ((Ap (out.res.flatMap (·.2)++out.bx.flatten) S.next).1.drop (out.res.flatMap (·.2)).length)=some r2 /\
  K (Fc (Gh out.res (Ap (out.res.flatMap (·.2)++out.bx.flatten) S.next).1)) [] ((Ap (out.res.flatMap (·.2)++out.bx.flatten) S.next).2.1++r2) (Ap (out.res.flatMap (·.2)++out.bx.flatten) S.next).2.2
def Im (n:Nat) (g:FuncId) (ws:List Value):List Value:=ws.take n++[.func (.func g) #[] (ws.drop n).toArray]
def Zsv (P:Program) (S:St) (f:FuncId) (vs:List V) (K:V->List (Nat×Af)->List (Nat×Root)->Nat->Prop):Prop :=
 ∃us g caps,vs=us++[.fn g caps]/\Zkp (fun ws w R=>Calls P f (Im us.length g ws).toArray w R) S (us++caps.map V.a) K
end Go.Vs
namespace Go.Vs
variable [Glb]
theorem Ea {α:Type}:∀(l r:List (Nat×α)) (t:Nat),get (l++r) t=match get l t with|some x=>some x|none=>get r t
 | [],_,_=>rfl
 | (k,x)::l,r,t=>by
  simp only[Kn,get];split
  ·rfl
  exact Ea l r t
theorem Z2 {α:Type}:∀{l:List (Nat×α)}{t:Nat},(∀x∈l,x.1≠t)->get l t=none
 | [],_,_=>rfl
 | (k,x)::l,t,h=>by
  simp only[get];rw[if_neg (h (k,x) (by simp))];exact Z2 fun y hy=>h y (by simp [hy])
theorem Yci {pl:Pls}{nc:Nat}:∀(L:List (Nat×Root)){roots:List (Nat×Root)}{c:C}{d:D}{roots1:List (Nat×Root)}{v:Value},(∀x∈L,nc<=x.1)->Dh roots c=some (d,roots1)->CR pl nc c v->Dh (L++roots) c=some (d,L++roots1)
 | [],_,_,_,_,_,_,h,_=>h
 | (R,x)::L,roots,c,d,roots1,v,hL,h,hc=>Ycf (Yci L (fun y hy=>hL y (by simp [hy])) h hc) hc (hL (R,x) (by simp))
theorem Yce {pl:Pls}{nc:Nat}(L:List (Nat×Root)) (hL:∀x∈L,nc<=x.1):∀{cs:List C}{vs:List Value}{roots:List (Nat×Root)}{ds:List D}{rt:List (Nat×Root)},Ab (CR pl nc) cs vs->Cx roots cs=some (ds,rt)->Cx (L++roots) cs=some (ds,L++rt)
 | [],_,_,_,_,_,h=>by simp only[Cx,Ka,Kb]at h ⊢;obtain⟨rfl,rfl⟩:=h;exact⟨rfl,rfl⟩
 | c::cs,[],_,_,_,hc,_=>hc.elim
 | c::cs,v::vs,roots,ds,rt,hc,h=>by
  simp only[Cx]at h ⊢;split at h
  ·rename_i d roots1 h1;rw[Yci L hL h1 hc.1];simp only;split at h
   ·rename_i ds' roots2 h2;simp only[Ka,Kb]at h;obtain⟨rfl,rfl⟩:=h;rw[Yce L hL hc.2 h2]
   simp at h
  simp at h
theorem Hs:∀(ds:List D) (n:Nat),n<=(Ap ds n).2.2/\(∀x∈(Ap ds n).2.1,n<=x.1/\x.1<(Ap ds n).2.2)
 | [],n=>⟨Kc _,by simp [Ap]⟩
 | .lf v::l,n=>Hs l n
 | .hole::l,n=>Hs l n
 | .sl sz es::l,n=>by
  obtain⟨a,b⟩:=Hs l (n+1);simp only[Ap];refine⟨by omega,fun x hx=>?_⟩;rcases Kh.1 hx with rfl|hx
  ·simp only;omega
  have:=b x hx;omega
variable {w0:World} {own0:Nat->Nat->Prop} {pl0:Pls} {g:Lab} {pl:Pls} {roots:List (Nat×Root)} {nx nc fix:Nat} {w:World}
theorem Ycg {c:C}{d:D}{roots1:List (Nat×Root)}(h:∀t x,get roots t=some x->t<nx) (ht:Dh roots c=some (d,roots1)):∀t x,get roots1 t=some x->t<nx:=fun t x hx=>by
 obtain⟨y,hy⟩:=Zqw ht hx;exact h t y hy
theorem Zbx:∀(cs:List C) (vs:List Value) (roots:List (Nat×Root)) (ds:List D) (rt:List (Nat×Root)) (g:Lab) (pl:Pls) (nx:Nat),Hp w0 own0 pl0 g pl roots nx nc fix w->Ab (CR pl nc) cs vs->Cx roots cs=some (ds,rt) ->
  ∃g' pl',Hp w0 own0 pl0 g' pl' ((Ap ds nx).2.1++rt) (Ap ds nx).2.2 nc fix w/\Es nx pl pl'/\Ab (CR pl' (Ap ds nx).2.2) (Ap ds nx).1 vs/\(∀t x,get rt t=some x->t<nx)
 | [],[],roots,ds,rt,g,pl,nx,h,_,ht=>by
  simp only[Cx,Ka,Kb]at ht;obtain⟨rfl,rfl⟩:=ht;exact⟨g,pl,h,fun _ _ _=>rfl,trivial,fun t x hx=>(h.roots t x hx).1⟩
 | [],_::_,_,_,_,_,_,_,_,hc,_=>hc.elim
 | _::_,[],_,_,_,_,_,_,_,hc,_=>hc.elim
 | c::cs,v::vs,roots,ds,rt,g,pl,nx,h,hc,ht=>by
  simp only[Cx]at ht;split at ht
  ·rename_i d roots1 h1;split at ht
   ·rename_i ds' roots2 h2;simp only[Ka,Kb]at ht;obtain⟨rfl,rfl⟩:=ht;have hlt1:=Ycg (fun t x hx=>(h.roots t x hx).1) h1
    -- a tree under the id nx
    have tree:∀(sz:Nat) (es:List (List D)) (g1:Lab) (pl1:Pls),d=.sl sz es->Hp w0 own0 pl0 g1 pl1 ((nx,.tr sz es)::roots1) (nx+1) nc fix w->Es nx pl pl1->Win (pl1 nx []) sz 0 es.length v ->
      ∃g' pl',Hp w0 own0 pl0 g' pl' ((Ap (d::ds') nx).2.1++roots2) (Ap (d::ds') nx).2.2 nc fix w/\Es nx pl pl'/\Ab (CR pl' (Ap (d::ds') nx).2.2) (Ap (d::ds') nx).1 (v::vs)/\(∀t x,get roots2 t=some x->t<nx):=by
     rintro sz es g1 pl1 rfl hp hag hw;have hnc:=h.ncle;have hc1:Ab (CR pl1 nc) cs vs:=hc.2.mono fun x u k=>k.agree fun r p hr=>hag r p (by omega);have ht1:=Yce (pl:=pl1) (nc:=nc) [(nx,.tr sz es)] (by simpa using hnc) hc1 h2;obtain⟨g',pl',a1,a2,a3,a4⟩:=Zbx cs vs _ ds' _ g1 pl1 (nx+1) hp hc1 ht1;have hle:=Hs ds' (nx+1);have hlt2:∀t x,get roots2 t=some x->t<nx:=by
      intro t x hx;have:∀(cs:List C) (r r':List (Nat×Root)) (ds:List D),Cx r cs=some (ds,r')->(∀t x,get r t=some x->t<nx)->∀t x,get r' t=some x->t<nx:=by
       intro cs
       induction cs with
       | nil=>intro r r' ds he hk;simp only[Cx,Ka,Kb]at he;obtain⟨_,rfl⟩:=he;exact hk
       | cons c cs ih =>
        intro r r' ds he hk;simp only[Cx]at he;split at he
        ·rename_i d1 r1 e1;split at he
         ·rename_i d2 r2 e2;simp only[Ka,Kb]at he;obtain⟨_,rfl⟩:=he;exact ih _ _ _ e2 (Ycg hk e1)
         simp at he
        simp at he
      exact this cs roots1 roots2 ds' h2 hlt1 t x hx
     refine⟨g',pl',a1.roots_eq ?_,fun r p hr=>(a2 r p (by omega)).trans (hag r p hr),⟨⟨by simp only[Ap];omega, ?_⟩,a3⟩,hlt2⟩
     ·intro t;simp only[Ap];simp only[Kn,Km,get,Ea];by_cases e:nx=t
      ·subst e;rw[if_pos rfl,Z2 (fun x hx=>by have:=(hle.2 x hx).1;omega)];simp
      simp [e]
     rw[a2 nx [] (by omega)];exact hw
    rcases Ych h hc.1 h1 with ⟨rfl,hv,rfl⟩|⟨sz,rfl,rfl,rfl⟩|⟨sz,es,g1,pl1,hd,hp,hag,hw,_⟩
    ·obtain⟨g',pl',a1,a2,a3,a4⟩:=Zbx cs vs _ ds' _ g pl nx h hc.2 h2;exact⟨g',pl',a1,a2,⟨⟨rfl,hv⟩,a3⟩,a4⟩
    ·refine tree sz [] _ _ rfl (h.newNil sz) (Cv _ _ _) ?_;rw[Cd];exact⟨rfl,fun _=>rfl,Kc _,none,rfl,fun _=>rfl⟩
    exact tree sz es g1 pl1 hd hp hag hw
   simp at ht
  simp at ht
end Go.Vs
namespace Go.Vs
variable [Glb]
inductive Ent where
 | tree (r:Nat) (p:Af)
 | read (r:Nat) (p:Af) (lo sz:Nat)
 | nil (sz:Nat)
 | box (r c k:Nat)
def Rj (sz:Nat):C->Ent
 | .rf r p _ _ _=>.tree r p
 | _=>.nil sz
def Pm (sz:Nat):C->Ent
 | .rf r p s lo _=>.read r p lo s
 | _=>.nil sz
def enC (m:M) (c:C) (d:D) (k:Kk):List (Nat×Ent)×Kk :=
 match d with
 | .lf _=>([],k)
 | .hole=>([],k)
 | .sl sz es=>match m with
  | .io=>([(k.1,Rj sz c)],(k.1+1,k.2))
  | .ow=>([(k.2,Rj sz c)],(k.1,k.2+1))
  | .rd=>([(k.2,Pm sz c)],(k.1,k.2+1))
  | .rx=>([(k.1,Pm sz c)],(k.1+1,k.2))
def Gw:List (M×C×D)->Kk->List (Nat×Ent)×Kk
 | [],k=>([],k)
 | (m,c,d)::l,k=>((enC m c d k).1++(Gw l (enC m c d k).2).1,(Gw l (enC m c d k).2).2)
def md (x:M×C×D):M×D:=(x.1,x.2.2)
theorem Qj (m:M) (c:C) (d:D) (k:Kk):(enC m c d k).2=(inC m d k).2.2:=by
 cases d<;>first|rfl|(cases m<;>rfl)
def Btw (k k':Kk) (id:Nat):Prop:=(k.1<=id/\id<k'.1)\/(k.2<=id/\id<k'.2)
theorem Znc (m:M) (d:D) (k:Kk):k.1<=(inC m d k).2.2.1/\k.2<=(inC m d k).2.2.2:=by
 cases d<;>first|exact⟨Kc _,Kc _⟩|(cases m<;>simp [inC])
theorem Ot:∀(l:List (M×D)) (k:Kk),k.1<=(Au l k).2.2.1/\k.2<=(Au l k).2.2.2
 | [],_=>⟨Kc _,Kc _⟩
 | (m,d)::l,k=>by
  have h1:=Znc m d k;have h2:=Ot l (inC m d k).2.2;exact⟨Kla h1.1 h2.1,Kla h1.2 h2.2⟩
theorem Znd:∀(l:List (M×D)) (k:Kk),(Au l k).2.2.1=k.1+C8 l
 | [],_=>rfl
 | (m,d)::l,k=>by
  simp only[Au,C8];rw[Znd l];have:(inC m d k).2.2.1=k.1+Qn (m,d):=by cases d<;>first|rfl|(cases m<;>rfl)
  rw[this];omega
theorem Zu0 {m:M}{c:C}{d:D}{k:Kk}{x:Nat×Ent}(h:x∈(enC m c d k).1):Btw k (inC m d k).2.2 x.1:=by
 cases d with
 | lf v=>simp [enC]at h
 | hole=>simp [enC]at h
 | sl sz es =>
  cases m<;>(simp only[enC,Koa]at h;subst h;simp [Btw,inC])
theorem Zl2:∀{l:List (M×C×D)}{k:Kk}{x:Nat×Ent},x∈(Gw l k).1->Btw k (Au (l.map md) k).2.2 x.1
 | [],_,_,h=>by simp [Gw]at h
 | (m,c,d)::l,k,x,h=>by
  simp only[Gw,Kca]at h;have h1:=Znc m d k;have h2:=Ot (l.map md) (inC m d k).2.2;simp only[Ke,md,Au];rcases h with h|h
  ·have:=Zu0 h;unfold Btw at this ⊢;rcases this with t|t
   ·exact .inl ⟨t.1,Kz t.2 h2.1⟩
   exact .inr ⟨t.1,Kz t.2 h2.2⟩
  have:=Zl2 h;rw[Qj]at this;unfold Btw at this ⊢;rcases this with t|t
  ·exact .inl ⟨Kla h1.1 t.1,t.2⟩
  exact .inr ⟨Kla h1.2 t.1,t.2⟩
def Ids (l:List (Nat×Ent)):List Nat:=l.map (·.1)
theorem Yp5 {l1 l2:List (Nat×Ent)}{k k1 k2:Kk}{F:Nat}(h1:(Ids l1).Nodup) (h2:(Ids l2).Nodup) (b1:∀x∈l1,Btw k k1 x.1) (b2:∀x∈l2,Btw k1 k2 x.1) (hF:k2.1<=F) (hF':F<=k.2) (hu:k.1<=k1.1/\k.2<=k1.2) (hu2:k1.1<=k2.1):(Ids (l1++l2)).Nodup:=by
 unfold Ids at *
 rw[Kx,Kdd];refine⟨h1,h2, ?_⟩;intro a ha b hb e;simp only[Ky]at ha hb;obtain⟨x,hx,rfl⟩:=ha;obtain⟨y,hy,rfl⟩:=hb;have t1:=b1 x hx;have t2:=b2 y hy;unfold Btw at t1 t2;omega
theorem Zu1:∀(l:List (M×C×D)) (k:Kk) (F:Nat),(Au (l.map md) k).2.2.1<=F->F<=k.2->(Ids (Gw l k).1).Nodup
 | [],_,_,_,_=>by simp [Gw,Ids]
 | (m,c,d)::l,k,F,h1,h2=>by
  simp only[Ke,md,Au]at h1;have u1:=Znc m d k;have u2:=Ot (l.map md) (inC m d k).2.2;refine Yp5 (F:=F) (k:=k) (k1:=(inC m d k).2.2) (k2:=(Au (l.map md) (inC m d k).2.2).2.2) ?_ ?_ (fun x hx=>Zu0 hx) (fun x hx=>by have:=Zl2 hx;rwa [Qj]at this) h1 h2 u1 u2.1
  ·cases d with
   | lf v=>simp [enC,Ids]
   | hole=>simp [enC,Ids]
   | sl sz es=>cases m<;>simp [enC,Ids]
  rw[Qj];exact Zu1 l _ F h1 (by omega)
theorem Hk {α:Type}:∀{l:List (Nat×α)}{id:Nat}{e:α},(l.map (·.1)).Nodup->(id,e)∈l->get l id=some e
 | [],_,_,_,h=>by simp at h
 | (k,x)::l,id,e,hn,h=>by
  simp only[Ke,Kta]at hn;rcases Kh.1 h with h|h
  ·simp only[Kb]at h;obtain⟨rfl,rfl⟩:=h;simp [get]
  simp only[get];rw[if_neg]
  ·exact Hk hn.2 h
  rintro rfl;exact hn.1 (Kjf h)
theorem Na {α:Type}:∀{l:List (Nat×α)}{id:Nat}{e:α},get l id=some e->(id,e)∈l
 | [],_,_,h=>by simp [get]at h
 | (k,x)::l,id,e,h=>by
  simp only[get]at h;split at h
  ·rename_i hk;subst hk;simp only[Ka]at h;subst h;simp
  exact Kj _ (Na h)
def plE (pl:Pls) (E:List (Nat×Ent)):Pls:=fun id q =>
 match get E id with
 | some (.tree r p)=>pl r (p++q)
 | some (.read r p lo sz)=>match q with
  | []=>⟨(pl r p).nil,(pl r p).b,(pl r p).off+lo*sz,(pl r p).cap-lo,sz,(pl r p).raw⟩
  | (i,c)::q'=>pl r (p++(lo+i,c)::q')
 | some (.nil sz)=>⟨true,0,0,0,sz,none⟩
 | some (.box r c _)=>⟨false,(pl r []).b,(pl r []).off+c,0,1,none⟩
 | none=>default
def B0:List (Nat×Ent)->Nat×Af->Option (Nat×Af)
 | [],_=>none
 | (id,.tree r p)::l,x=>if x.1=r/\p <+: x.2 then some (id,x.2.drop p.length) else B0 l x
 | (id,.box r c k)::l,x =>
  match x.2 with
  | [(0,j)]=>if x.1=r/\c<=j/\j<c+k then some (id,[(0,j-c)]) else B0 l x
  | _=>B0 l x
 | _::l,x=>B0 l x
def A9:List (Nat×Ent)->List Nat
 | []=>[]
 | (_,.tree r _)::l=>r::A9 l
 | (_,.box r _ _)::l=>r::A9 l
 | _::l=>A9 l
theorem Ol:∀{E:List (Nat×Ent)}{x:Nat×Af},x.1 ∉ A9 E->B0 E x=none
 | [],_,_=>rfl
 | (id,e)::l,x,h=>by
  cases e with
  | tree r p =>
   simp only[A9,Kh,not_or]at h;simp only[B0];rw[if_neg (fun k=>h.1 k.1)];exact Ol h.2
  | box r c k =>
   simp only[A9,Kh,not_or]at h;simp only[B0];split
   ·rw[if_neg (fun k=>h.1 k.1)];exact Ol h.2
   exact Ol h.2
  | read r p lo sz=>simp only[A9]at h;simp only[B0];exact Ol h
  | nil sz=>simp only[A9]at h;simp only[B0];exact Ol h
theorem Zn9:∀{E:List (Nat×Ent)}{id r:Nat}{p:Af},(id,Ent.tree r p)∈E->r∈A9 E
 | [],_,_,_,h=>by simp at h
 | (k,e)::l,id,r,p,h=>by
  rcases Kh.1 h with h|h
  ·simp only[Kb]at h;obtain⟨rfl,rfl⟩:=h;simp [A9]
  have:=Zn9 h;cases e<;>simp [A9,this]
theorem Zn8:∀{E:List (Nat×Ent)}{id r c k:Nat},(id,Ent.box r c k)∈E->r∈A9 E
 | [],_,_,_,_,h=>by simp at h
 | (k,e)::l,id,r,c,kk,h=>by
  rcases Kh.1 h with h|h
  ·simp only[Kb]at h;obtain⟨rfl,rfl⟩:=h;simp [A9]
  have:=Zn8 h;cases e<;>simp [A9,this]
theorem V4:∀{E:List (Nat×Ent)}{id r:Nat}{p q:Af},(A9 E).Nodup->(id,Ent.tree r p)∈E->B0 E (r,p++q)=some (id,q)
 | [],_,_,_,_,_,h=>by simp at h
 | (k,e)::l,id,r,p,q,hn,h=>by
  rcases Kh.1 h with h0|h1
  ·simp only[Kb]at h0;obtain⟨rfl,rfl⟩:=h0;simp [B0]
  have hm:=Zn9 h1;cases e with
  | tree r' p' =>
   simp only[A9,Kta]at hn;simp only[B0];rw[if_neg (fun k=>hn.1 (by rw[<-k.1];exact hm))];exact V4 hn.2 h1
  | box r' c k =>
   simp only[A9,Kta]at hn;simp only[B0];split
   ·rw[if_neg (fun k=>hn.1 (by rw[<-k.1];exact hm))];exact V4 hn.2 h1
   exact V4 hn.2 h1
  | read r' p' lo sz=>simp only[A9]at hn;simp only[B0];exact V4 hn h1
  | nil sz=>simp only[A9]at hn;simp only[B0];exact V4 hn h1
theorem Z5:∀{E:List (Nat×Ent)}{id r c k j:Nat},(A9 E).Nodup->(id,Ent.box r c k)∈E->j<k->B0 E (r,[(0,c+j)])=some (id,[(0,j)])
 | [],_,_,_,_,_,_,h,_=>by simp at h
 | (i,e)::l,id,r,c,k,j,hn,h,hj=>by
  rcases Kh.1 h with h0|h1
  ·simp only[Kb]at h0;obtain⟨rfl,rfl⟩:=h0;simp only[B0];rw[if_pos ⟨by simp,by omega,by omega⟩];congr 4;omega
  have hm:=Zn8 h1;cases e with
  | tree r' p' =>
   simp only[A9,Kta]at hn;simp only[B0];rw[if_neg (fun k=>hn.1 (by rw[<-k.1];exact hm))];exact Z5 hn.2 h1 hj
  | box r' c' k' =>
   simp only[A9,Kta]at hn;simp only[B0];rw[if_neg (fun k=>hn.1 (by rw[<-k.1];exact hm))];exact Z5 hn.2 h1 hj
  | read r' p' lo sz=>simp only[A9]at hn;simp only[B0];exact Z5 hn h1 hj
  | nil sz=>simp only[A9]at hn;simp only[B0];exact Z5 hn h1 hj
def F1 (g:Lab) (E:List (Nat×Ent)):Lab:=fun b o=>(g b o).bind (B0 E)
def Dy (g:Lab) (E:List (Nat×Ent)) (b o:Nat):Prop:=(F1 g E b o).isSome=true
section
variable {w0:World} {own0:Nat->Nat->Prop} {pl0:Pls} {g:Lab} {pl:Pls} {roots:List (Nat×Root)} {nx nc fix:Nat} {w:World} {E:List (Nat×Ent)}
def U7 (pl : Pls) (roots : List (Nat × Root)) (E : List (Nat × Ent)) : M × C × D → Value → Prop
  | (_, _, .lf u), v => v = u ∧ u.oneCell' = true
  | (_, _, .hole), v => v.oneCell' = true
  | (m, c, .sl sz es), v =>
    (c = .nl sz ∧ es = [] ∧ v = .slice none 0 0) ∨
    (∃ r p lo n, c = .rf r p sz lo n ∧ Win (pl r p) sz lo n v ∧
      (((m = .rd ∨ m = .rx) ∧ (lo = 0 ∨ 0 < n) ∧ r ∉ A9 E ∧ ∃ l, Dr roots r p = some (sz, l) ∧ lo + n ≤ l.length ∧ es = (l.drop lo).take n) ∨
       ((m = .io ∨ m = .ow) ∧ lo = 0 ∧ ∃ sz0 es0, get roots r = some (.tr sz0 es0) ∧ Am sz0 es0 p = some (sz, es) ∧ n = es.length)))
theorem Yjg (h:Hp w0 own0 pl0 g pl roots nx nc fix w) (hn:(Ids E).Nodup) (hh:(A9 E).Nodup){id r:Nat}{p:Af}(hE:(id,Ent.tree r p)∈E){sz0:Nat}{es0:List (List D)}(hr:get roots r=some (.tr sz0 es0)){sz:Nat}{es:List (List D)}(hp:Am sz0 es0 p=some (sz,es)) (st:Nat->Nat->Prop) (nx':Nat) :
  Dj st w (F1 g E) (plE pl E) nx' id (.tr sz es):=by
 have hg:=Hk hn hE;have hpl:∀q,plE pl E id q=pl r (p++q):=fun q=>by unfold plE;rw[hg]
 intro q m hq;obtain⟨a,b⟩:=(h.roots r _ hr).2 (p++q) m (by rw[Nc,hp];exact hq);refine⟨a.move (hpl q) (fun i c _ _ _ _=>by rw[hpl,Kva]) fun _ _=>rfl,b.move (hpl q) fun b o hb=>⟨?_,fun z=>z,rfl⟩⟩;unfold F1;rw[hb];exact V4 hh hE
theorem Zfl {id sz:Nat}(hn:(Ids E).Nodup) (hE:(id,Ent.nil sz)∈E){sz':Nat}(hs:sz'=sz) (w:World) (g':Lab) (st:Nat->Nat->Prop) (nx':Nat):Dj st w g' (plE pl E) nx' id (.tr sz' [])/\Dj st w g' (plE pl E) nx' id (.im sz' []):=by
 subst hs;have hg:=Hk hn hE;have hpl:∀q,plE pl E id q=⟨true,0,0,0,sz',none⟩:=fun q=>by unfold plE;rw[hg]
 have hnode:∀q m,Am sz' [] q=some m->q=[]/\m=(sz',[]):=by
  intro q m hq;cases q with
  | nil=>simp only[Am,Ka]at hq;exact⟨rfl,hq.symm⟩
  | cons a q=>obtain⟨i,c⟩:=a;simp [Am]at hq
 constructor
 ·intro q m hq;obtain⟨rfl,rfl⟩:=hnode q m hq;exact⟨⟨by rw[hpl],by rw[hpl];simp,by rw[hpl];simp,by simp,by simp⟩,fun j hj=>by rw[hpl]at hj;simp at hj⟩
 intro q m hq;obtain⟨rfl,rfl⟩:=hnode q m hq;exact⟨⟨by rw[hpl],by rw[hpl];simp,by rw[hpl];simp,by simp,by simp⟩,fun j hj=>by simp at hj⟩
theorem Ybw (h:Hp w0 own0 pl0 g pl roots nx nc fix w){r:Nat}(hr:r ∉ A9 E){p:Af}{n:Nat×List (List D)}(hn:Dr roots r p=some n){j:Nat}(hj:j<n.2.length*n.1) :
  Fj w (Dy g E) (pl r p).b ((pl r p).off+j):=by
 obtain⟨_,hc⟩:=h.node hn;have hsz:0<n.1:=by
  rcases Kgf n.1 with h0|h0
  ·rw[h0]at hj;simp at hj
  exact h0
 have hi:j / n.1<n.2.length:=Khe (by rw[Kgc];exact hj);have hcs:j%n.1<n.1:=Kmc _ hsz;have hdm:j / n.1*n.1+j%n.1=j:=by rw[Kgc];exact Kie _ _
 have he:=Ku hi;have hel:=hc.szs _ (Kaa he);have hd:=Ku (show j%n.1<(n.2[j / n.1]).length by omega);obtain⟨v,hv,_⟩:=hc.cells _ _ _ _ he hd;rw[hdm]at hv;refine⟨World.block_lt_of_cell? _ _ hv, ?_⟩;unfold Dy F1;unfold Dr at hn;split at hn
 ·rename_i sz es hg;obtain⟨a,b⟩:=(h.roots r _ hg).2 p n hn;have:=b.lab a (j:=j) (by have:=Kac n.1 hc.le;omega);rw[this,Kra,Ol hr];simp
 ·rename_i sz es hg;obtain⟨a,b⟩:=(h.roots r _ hg).2 p n hn;have hst:=b j (by rw[hc.szp];exact hj);cases hlab:g (pl r p).b ((pl r p).off+j) with
  | none=>simp
  | some x =>
   exfalso;rcases (h.lab _ _ _ hlab).2.1 with k|k
   ·have:=hst.1;omega
   exact hst.2 k
 simp at hn
theorem Yjf (h:Hp w0 own0 pl0 g pl roots nx nc fix w) (hn:(Ids E).Nodup){id r:Nat}{p:Af}{lo sz:Nat}(hE:(id,Ent.read r p lo sz)∈E) (hr:r ∉ A9 E){l:List (List D)}(hl:Dr roots r p=some (sz,l)){n:Nat}(hlm:lo+n<=l.length) (g':Lab) (nx':Nat) :
  Dj (Fj w (Dy g E)) w g' (plE pl E) nx' id (.im sz ((l.drop lo).take n)):=by
 have hg:=Hk hn hE;have hp0:plE pl E id []=⟨(pl r p).nil,(pl r p).b,(pl r p).off+lo*sz,(pl r p).cap-lo,sz,(pl r p).raw⟩:=by unfold plE;rw[hg]
 have hp1:∀i c q,plE pl E id ((i,c)::q)=pl r (p++(lo+i,c)::q):=fun i c q=>by unfold plE;rw[hg]
 obtain⟨_,hc⟩:=h.node hl;have hszp:=hc.szp;intro q m hq;cases q with
 | nil =>
  simp only[Am,Ka]at hq;subst hq;refine⟨⟨by rw[hp0],by rw[hp0];have:=hc.le;simp;simp only at this;omega,by rw[hp0];intro hnil;have:=hc.nil hnil;simp only;omega,fun e he=>hc.szs e (Kkb (Kjb he)), ?_⟩, ?_⟩
  ·intro i e c d he hd;have he':=Mz rfl _ _ he;obtain⟨v,hv,hdv⟩:=hc.cells _ e c d he' hd;rw[hp0,Km,hp1];refine⟨v, ?_,hdv⟩;simp only;rw[show (pl r p).off+lo*sz+(i*sz+c)=(pl r p).off+((lo+i)*sz+c) by rw[Kbb];omega];exact hv
  intro j hj;rw[hp0]at hj ⊢;simp only at hj ⊢;rw[Kgb];have hlen:((l.drop lo).take n).length=n:=by simp;omega
  rw[hlen]at hj;refine Ybw h hr hl ?_;simp only;have:=Kac sz hlm;rw[Kbb]at this;omega
 | cons a q =>
  obtain⟨i,c⟩:=a;have hq':Dr roots r (p++(lo+i,c)::q)=some m:=by
   have hnode:Am sz l ((lo+i,c)::q)=some m:=by
    unfold Am at hq ⊢;by_cases hi:i<n
    ·rw[Kwa,if_pos hi,Kdb]at hq;exact hq
    rw[Kwa,if_neg hi]at hq;simp at hq
   unfold Dr at hl ⊢;cases hg2:get roots r with
   | none=>rw[hg2]at hl;simp at hl
   | some R =>
    rw[hg2]at hl;cases R with
    | tr s2 e2=>simp only at hl ⊢;rw[Nc,hl];exact hnode
    | im s2 e2=>simp only at hl ⊢;rw[Nc,hl];exact hnode
    | bx c2=>simp at hl
    | ib c2=>simp at hl
  obtain⟨_,a⟩:=h.node hq';refine⟨a.move (hp1 i c q) (fun j k _ _ _ _=>by rw[Kn,hp1];simp) fun _ _=>rfl, ?_⟩;intro j hj;rw[hp1]at hj ⊢;exact Ybw h hr hq' (by rw[a.szp]at hj;exact hj)
theorem Yd5 (hn:(Ids E).Nodup){id r:Nat}{p:Af}(hE:(id,Ent.tree r p)∈E){sz n:Nat}{v:Value}(hw:Win (pl r p) sz 0 n v){N:Nat}(hN:id<N):CR (plE pl E) N (.rf id [] sz 0 n) v:=by
 have hg:=Hk hn hE;refine⟨hN, ?_⟩;rw[show plE pl E id []=pl r (p++[]) by unfold plE;rw[hg],Kw];exact hw
theorem Yd4 (hn:(Ids E).Nodup){id r:Nat}{p:Af}{lo sz:Nat}(hE:(id,Ent.read r p lo sz)∈E){n:Nat}{v:Value}(hw:Win (pl r p) sz lo n v) (hl:lo=0\/0<n){N:Nat}(hN:id<N):CR (plE pl E) N (.rf id [] sz 0 n) v:=by
 have hg:=Hk hn hE;refine⟨hN, ?_⟩;rw[show plE pl E id []=⟨(pl r p).nil,(pl r p).b,(pl r p).off+lo*sz,(pl r p).cap-lo,sz,(pl r p).raw⟩ by unfold plE;rw[hg]];obtain⟨h1,h2,h3,A,rfl,h4⟩:=hw;refine⟨rfl,fun hnil=>?_,by simp only;omega,A,rfl,fun _=>?_⟩
 ·have:=h2 hnil;simp only;omega
 rw[h4 (by omega),h1];simp
theorem Zcl (hn:(Ids E).Nodup){id sz:Nat}(hE:(id,Ent.nil sz)∈E){N:Nat}(hN:id<N):CR (plE pl E) N (.rf id [] sz 0 0) (.slice none 0 0):=by
 have hg:=Hk hn hE;refine⟨hN, ?_⟩;rw[show plE pl E id []=⟨true,0,0,0,sz,none⟩ by unfold plE;rw[hg]];exact⟨rfl,fun _=>rfl,Kc _,none,rfl,fun _=>rfl⟩
theorem Yje (h:Hp w0 own0 pl0 g pl roots nx nc fix w) (hn:(Ids E).Nodup) (hh:(A9 E).Nodup){m:M}{c:C}{d:D}{u:Value}(hg:U7 pl roots E (m,c,d) u){k:Kk}{N:Nat}(hE:∀x∈(enC m c d k).1,x∈E) (h1:(inC m d k).2.2.1<=N) (h2:(inC m d k).2.2.2<=N) :
  CR (plE pl E) N (inC m d k).1 u/\∀y∈(inC m d k).2.1,y.1<N/\Dj (Fj w (Dy g E)) w (F1 g E) (plE pl E) N y.1 y.2:=by
 cases d with
 | lf v=>exact⟨hg,by simp [inC]⟩
 | hole=>exact⟨hg,by simp [inC]⟩
 | sl sz es =>
  rcases hg with ⟨rfl,rfl,rfl⟩|⟨r,p,lo,n,rfl,hw,hgg⟩
  ·cases m with
   | io =>
    simp only[inC]at h1 h2 ⊢;have hE':=hE (k.1,.nil sz) (by simp [enC,Rj]);exact⟨Zcl hn hE' (by omega),by simp only[Koa,forall_eq];exact⟨by omega,(Zfl hn hE' rfl w _ _ _).1⟩⟩
   | ow =>
    simp only[inC]at h1 h2 ⊢;have hE':=hE (k.2,.nil sz) (by simp [enC,Rj]);exact⟨Zcl hn hE' (by omega),by simp only[Koa,forall_eq];exact⟨by omega,(Zfl hn hE' rfl w _ _ _).1⟩⟩
   | rd =>
    simp only[inC]at h1 h2 ⊢;have hE':=hE (k.2,.nil sz) (by simp [enC,Pm]);exact⟨Zcl hn hE' (by omega),by simp only[Koa,forall_eq];exact⟨by omega,(Zfl hn hE' rfl w _ _ _).2⟩⟩
   | rx =>
    simp only[inC]at h1 h2 ⊢;have hE':=hE (k.1,.nil sz) (by simp [enC,Pm]);exact⟨Zcl hn hE' (by omega),by simp only[Koa,forall_eq];exact⟨by omega,(Zfl hn hE' rfl w _ _ _).2⟩⟩
  have rdr:∀id,(id,Ent.read r p lo sz)∈E->(lo=0\/0<n)->r ∉ A9 E->(∃l,Dr roots r p=some (sz,l)/\lo+n<=l.length/\es=(l.drop lo).take n)->id<N ->
    CR (plE pl E) N (.rf id [] sz 0 es.length) u/\Dj (Fj w (Dy g E)) w (F1 g E) (plE pl E) N id (.im sz es):=by
   rintro id hid hlo hr ⟨l,hl,hlm,rfl⟩ hN;have:((l.drop lo).take n).length=n:=by simp;omega
   rw[this];exact⟨Yd4 hn hid hw hlo hN,Yjf h hn hid hr hl hlm _ _⟩
  have trr:∀id,(id,Ent.tree r p)∈E->lo=0->(∃sz0 es0,get roots r=some (.tr sz0 es0)/\Am sz0 es0 p=some (sz,es)/\n=es.length)->id<N ->
    CR (plE pl E) N (.rf id [] sz 0 es.length) u/\Dj (Fj w (Dy g E)) w (F1 g E) (plE pl E) N id (.tr sz es):=by
   rintro id hid rfl ⟨sz0,es0,hr,hp,rfl⟩ hN;exact⟨Yd5 hn hid hw hN,Yjg h hn hh hid hr hp _ _⟩
  cases m with
  | io =>
   simp only[inC]at h1 h2 ⊢;rcases hgg with ⟨hm,_⟩|⟨_,hlo,hx⟩
   ·simp at hm
   have hE':=hE (k.1,.tree r p) (by simp [enC,Rj]);have:=trr _ hE' hlo hx (by omega);exact⟨this.1,by simp only[Koa,forall_eq];exact⟨by omega,this.2⟩⟩
  | ow =>
   simp only[inC]at h1 h2 ⊢;rcases hgg with ⟨hm,_⟩|⟨_,hlo,hx⟩
   ·simp at hm
   have hE':=hE (k.2,.tree r p) (by simp [enC,Rj]);have:=trr _ hE' hlo hx (by omega);exact⟨this.1,by simp only[Koa,forall_eq];exact⟨by omega,this.2⟩⟩
  | rd =>
   simp only[inC]at h1 h2 ⊢;rcases hgg with ⟨_,hlo,hr,hx⟩|⟨hm,_⟩
   ·have hE':=hE (k.2,.read r p lo sz) (by simp [enC,Pm]);have:=rdr _ hE' hlo hr hx (by omega);exact⟨this.1,by simp only[Koa,forall_eq];exact⟨by omega,this.2⟩⟩
   simp at hm
  | rx =>
   simp only[inC]at h1 h2 ⊢;rcases hgg with ⟨_,hlo,hr,hx⟩|⟨hm,_⟩
   ·have hE':=hE (k.1,.read r p lo sz) (by simp [enC,Pm]);have:=rdr _ hE' hlo hr hx (by omega);exact⟨this.1,by simp only[Koa,forall_eq];exact⟨by omega,this.2⟩⟩
   simp at hm
theorem Zu2 (h:Hp w0 own0 pl0 g pl roots nx nc fix w) (hn:(Ids E).Nodup) (hh:(A9 E).Nodup){N:Nat}:∀(fl:List (M×C×D)) (us:List Value) (k:Kk),Ab (U7 pl roots E) fl us->(∀x∈(Gw fl k).1,x∈E)->(Au (fl.map md) k).2.2.1<=N->(Au (fl.map md) k).2.2.2<=N ->
  Ab (CR (plE pl E) N) (Au (fl.map md) k).1 us/\∀y∈(Au (fl.map md) k).2.1,y.1<N/\Dj (Fj w (Dy g E)) w (F1 g E) (plE pl E) N y.1 y.2
 | [],[],k,_,_,_,_=>⟨trivial,by simp [Au]⟩
 | [],_::_,_,hg,_,_,_=>hg.elim
 | _::_,[],_,hg,_,_,_=>hg.elim
 | (m,c,d)::fl,u::us,k,hg,hE,h1,h2=>by
  simp only[Ke,md,Au]at h1 h2 ⊢;have u2:=Ot (fl.map md) (inC m d k).2.2;simp only[Gw,Kca]at hE;have e1:=Yje h hn hh hg.1 (fun x hx=>hE x (.inl hx)) (N:=N) (by omega) (by omega);have e2:=Zu2 h hn hh fl us (inC m d k).2.2 hg.2 (fun x hx=>hE x (.inr (by rw[Qj];exact hx))) h1 h2;refine⟨⟨e1.1,e2.1⟩,fun y hy=>?_⟩;rcases Kca.1 hy with hy|hy
  ·exact e1.2 y hy
  exact e2.2 y hy
theorem Yjd (h:Hp w0 own0 pl0 g pl roots nx nc fix w) (hn:(Ids E).Nodup) (hh:(A9 E).Nodup){id r c k:Nat}(hE:(id,Ent.box r c k)∈E){cs:List C}(hr:get roots r=some (.bx cs)) (hc:c+k<=cs.length){ys:List C}{us:List Value}{N:Nat}(hys:Ab (CR (plE pl E) N) ys us) (hk:ys.length=k)
  (hus:∀j u,us[j]? = some u->w.cell? ⟨(pl r []).b,(pl r []).off+(c+j),none⟩=some u) (st:Nat->Nat->Prop) :
  Dj st w (F1 g E) (plE pl E) N id (.bx ys):=by
 have hg:=Hk hn hE;intro j x hx;obtain⟨u,hu,hcr⟩:=hys.get j x hx;have hj:j<k:=by rw[<-hk];exact (Kfa.1 hx).1
 obtain⟨v,h1,_,h3,h4⟩:=(h.roots r _ hr).2 (c+j) _ (Ku (by omega));rw[show plE pl E id []=⟨false,(pl r []).b,(pl r []).off+c,0,1,none⟩ by unfold plE;rw[hg]];simp only[Kgb];refine⟨u,hus j u hu,hcr, ?_,h4⟩;unfold F1;rw[h3];exact Z5 hh hE hj
end
end Go.Vs
namespace Go.Vs
variable [Glb]
def Cm:List (M×C×D)->List C->List (M×C×D)
 | (.ow,_,d)::l,c::cs=>(.ow,c,d)::Cm l cs
 | x::l,cs=>x::Cm l cs
 | [],_=>[]
def enB:List (Nat×Nat×Nat)->Nat->List (Nat×Ent)
 | [],_=>[]
 | (r,c,k)::l,b=>(b,.box r c k)::enB l (b+1)
def Str (pl:Pls) (w:World):List Arg->List (Nat×Nat×Nat)->List Value->List Value->Prop
 | .val ag l::r,bs,us,v::ws=>∃u1 u2,us=u1++u2/\u1.length=l.length/\(ag=true->v=.agg u1.toArray)/\(ag=false->u1=[v])/\Str pl w r bs u2 ws
 | .ptr l::r,x::bs,us,v::ws=>x.2.2=l.length/\∃u1 u2,us=u1++u2/\u1.length=l.length/\v=.pointer (some ⟨(pl x.1 []).b,(pl x.1 []).off+x.2.1,none⟩) /\
   (∀j u,u1[j]? = some u->w.cell? ⟨(pl x.1 []).b,(pl x.1 []).off+(x.2.1+j),none⟩=some u)/\Str pl w r bs u2 ws
 | [],[],us,[]=>us=[]
 | _,_,_,_=>False
theorem Xw:∀{cs:List C}{l:List (M×D)}{fl:List (M×C×D)},Lk cs l=some fl->fl.map (·.2.1)=cs/\fl.map md=l
 | [],[],fl,h=>by simp only[Lk,Ka]at h;subst h;exact⟨rfl,rfl⟩
 | c::cs,(m,d)::l,fl,h=>by
  simp only[Lk,Ks]at h;obtain⟨f,hf,rfl⟩:=h;obtain⟨a,b⟩:=Xw hf;exact⟨by simp [a],by simp [b,md]⟩
 | [],_::_,_,h=>by simp [Lk]at h
 | _::_,[],_,h=>by simp [Lk]at h
section
variable {w0:World} {own0:Nat->Nat->Prop} {pl0:Pls} {g:Lab} {pl:Pls} {roots:List (Nat×Root)} {nx nc fix:Nat} {w:World} {E:List (Nat×Ent)}
theorem Zvr (h:Hp w0 own0 pl0 g pl roots nx nx fix w){pl1:Pls}(hag:Es nx pl pl1):∀(vs:List V) (ws:List Value) (as:List Arg) (fl:List (M×C×D)),Ab (VR pl nx) vs ws->Hi roots vs as=some fl ->
  ∃us,Ab (CR pl nx) (fl.map (·.2.1)) us/\Str pl1 w as (Bf vs as) us ws/\fl.map md=flat as/\∀x∈Bf vs as,x.1<nx/\∃cs,get roots x.1=some (.bx cs)/\x.2.1+x.2.2<=cs.length
 | [],[],[],fl,_,hf=>by
  simp only[Hi,Ka]at hf;subst hf;exact⟨[],trivial,rfl,rfl,by simp [Bf]⟩
 | [],_::_,_,_,hv,_=>hv.elim
 | _::_,[],_,_,hv,_=>hv.elim
 | [],[],_::_,_,_,hf=>by simp [Hi]at hf
 | _::_,_::_,[],_,_,hf=>by simp [Hi]at hf
 | v::vs,u::ws,x::as,fl,hv,hf=>by
  simp only[Hi]at hf;split at hf
  ·rename_i fa fb ha hb;simp only[Ka]at hf;subst hf;obtain⟨us,h1,h2,h3,h4⟩:=Zvr h hag vs ws as fb hv.2 hb;have hv1:=hv.1;unfold Qp at ha;split at ha
   ·rename_i c l;obtain⟨e1,e2⟩:=Xw ha;refine⟨[u]++us, ?_,⟨[u],us,rfl, ?_,by simp,by simp, ?_⟩, ?_, ?_⟩
    ·rw[Kx,e1];exact Ab.append ⟨hv1,trivial⟩ h1
    ·rw[<-e2,Ko,<-Ko (f:=fun x:M×C×D=>x.2.1),e1];rfl
    ·cases c<;>exact h2
    ·rw[Kx,e2,h3];rfl
    cases c<;>exact h4
   ·rename_i cs l;obtain⟨e1,e2⟩:=Xw ha;obtain⟨u1,rfl,hu1⟩:=hv1;refine⟨u1++us, ?_,⟨u1,us,rfl, ?_,by simp,by simp,h2⟩, ?_,h4⟩
    ·rw[Kx,e1];exact Ab.append hu1 h1
    ·rw[<-e2,Ko,<-hu1.length,<-e1,Ko]
    rw[Kx,e2,h3];rfl
   ·rename_i r c l;split at ha
    ·rename_i cs hr;split at ha
     ·rename_i hcl;obtain⟨e1,e2⟩:=Xw ha;obtain⟨u1,hl1,hu1,hc1⟩:=h.boxFrom (r:=r) (cs:=cs) (by unfold Zf;rw[hr]) ((cs.drop c).take l.length) c (Mz rfl);have hlen:u1.length=l.length:=by rw[hl1];simp;omega
      refine⟨u1++us, ?_,⟨rfl,u1,us,rfl,hlen, ?_, ?_,h2⟩, ?_, ?_⟩
      ·rw[Kx,e1];exact Ab.append hc1 h1
      ·rw[hag r [] hv1.1];exact hv1.2
      ·simp only;rw[hag r [] hv1.1];exact hu1
      ·rw[Kx,e2,h3];rfl
      intro y hy;simp only[Bf,Kh]at hy;rcases hy with rfl|hy
      ·exact⟨hv1.1,cs,hr,hcl⟩
      exact h4 y hy
     simp at ha
    simp at ha
   simp at ha
  simp at hf
theorem Zfk (h:Hp w0 own0 pl0 g pl roots nx nc fix w) (hn:(Ids E).Nodup) (hh:(A9 E).Nodup){N:Nat}(st:Nat->Nat->Prop):∀(as:List Arg) (bs:List (Nat×Nat×Nat)) (us ws:List Value) (cs:List C) (b:Nat),Str pl w as bs us ws->Ab (CR (plE pl E) N) cs us->(∀x∈enB bs b,x∈E)->(∀x∈bs,∃cs,get roots x.1=some (.bx cs)/\x.2.1+x.2.2<=cs.length)->b+I4 as<=N ->
  Ab (VR (plE pl E) N) (inV as cs b) ws/\∀y∈I7 (inB as cs) b,y.1<N/\Dj st w (F1 g E) (plE pl E) N y.1 y.2
 | [],[],us,[],cs,b,hs,hc,_,_,_=>⟨trivial,by simp [inB,I7]⟩
 | .val false l::r,bs,us,v::ws,cs,b,⟨u1,u2,hus,hl,_,h1,h2⟩,hc,hE,hbs,hb=>by
  have h1:=h1 rfl;subst h1 hus;have hl1:l.length=1:=by rw[<-hl];rfl
  have t:=hc.take 1;have dd:=hc.drop 1;simp only[Khb,Kza,Kkf,Klb,Kja]at t dd;obtain⟨a1,a2⟩:=Zfk h hn hh st r bs u2 ws (cs.drop 1) b h2 dd hE hbs hb;simp only[inV,inB,hl1];refine⟨⟨?_,a1⟩,a2⟩
  match hcs:cs.take 1,t with
  | [c],t=>exact t.1
 | .val true l::r,bs,us,v::ws,cs,b,⟨u1,u2,hus,hl,h1,_,h2⟩,hc,hE,hbs,hb=>by
  have h1:=h1 rfl;subst h1 hus;have t:=hc.take l.length;have dd:=hc.drop l.length;rw[<-hl,Ked  rfl]at t;rw[<-hl,Kqc rfl]at dd;obtain⟨a1,a2⟩:=Zfk h hn hh st r bs u2 ws (cs.drop u1.length) b h2 dd hE hbs hb;simp only[inV,inB,<-hl];exact⟨⟨⟨u1,rfl,t⟩,a1⟩,a2⟩
 | .ptr l::r,x::bs,us,v::ws,cs,b,⟨hk,u1,u2,hus,hl,h1,h3,h2⟩,hc,hE,hbs,hb=>by
  subst h1 hus;have t:=hc.take l.length;have dd:=hc.drop l.length;rw[<-hl,Ked  rfl]at t;rw[<-hl,Kqc rfl]at dd;simp only[I4]at hb;obtain⟨a1,a2⟩:=Zfk h hn hh st r bs u2 ws (cs.drop u1.length) (b+1) h2 dd (fun y hy=>hE y (by obtain⟨x1,x2,x3⟩:=x;simp [enB,hy])) (fun y hy=>hbs y (by simp [hy])) (by omega);have hx:=hE (b,.box x.1 x.2.1 x.2.2) (by obtain⟨x1,x2,x3⟩:=x;simp [enB]);have hg:=Hk hn hx;obtain⟨cs0,hr,hcl⟩:=hbs x (by simp);simp only[inV,inB,I7,<-hl];refine⟨⟨⟨by omega, ?_⟩,a1⟩,fun y hy=>?_⟩
  ·rw[show plE pl E b []=⟨false,(pl x.1 []).b,(pl x.1 []).off+x.2.1,0,1,none⟩ by unfold plE;rw[hg]];rfl
  rcases Kh.1 hy with rfl|hy
  ·exact⟨by simp only;omega,Yjd h hn hh hx hr hcl t (by rw[t.length,hl,hk]) h3 st⟩
  exact a2 y hy
 | [],[],_,_::_,_,_,hs,_,_,_,_=>hs.elim
 | [],_::_,_,_,_,_,hs,_,_,_,_=>hs.elim
 | .val _ _::_,_,_,[],_,_,hs,_,_,_,_=>hs.elim
 | .ptr _::_,[],_,_,_,_,hs,_,_,_,_=>hs.elim
 | .ptr _::_,_::_,_,[],_,_,hs,_,_,_,_=>hs.elim
end
end Go.Vs
namespace Go.Vs
variable [Glb]
def owD (fl:List (M×C×D)):List D:=(fl.filter Jq).map (·.2.2)
def owC (fl:List (M×C×D)):List C:=(fl.filter Jq).map (·.2.1)
def Pa:List (M×C×D)->List Value->List Value
 | x::l,u::us=>if Jq x then u::Pa l us else Pa l us
 | _,_=>[]
theorem Zy8 {R:C->Value->Prop}:∀{fl:List (M×C×D)}{us:List Value},Ab R (fl.map (·.2.1)) us->Ab R (owC fl) (Pa fl us)
 | [],[],_=>trivial
 | [],_::_,h=>h.elim
 | _::_,[],h=>h.elim
 | (m,c,d)::fl,u::us,h=>by
  have:=Zy8 h.2;by_cases hm:m=.ow
  ·subst hm;exact⟨h.1,this⟩
  cases m<;>first|exact this|exact (hm rfl).elim
theorem Ld {m:M}(hm:m≠.ow){c:C}{d:D}{l:List (M×C×D)}{cs:List C}:Cm ((m,c,d)::l) cs=(m,c,d)::Cm l cs:=by
 cases m<;>first|rfl|exact (hm rfl).elim
theorem Za7:∀(fl:List (M×C×D)) (cs:List C),(Cm fl cs).map md=fl.map md
 | [],_=>rfl
 | (m,c,d)::l,cs=>by
  by_cases hm:m=.ow
  ·subst hm;cases cs with
   | nil=>simp [Cm,Za7 l,md]
   | cons y cs=>simp [Cm,Za7 l,md]
  rw[Ld hm];simp [Za7 l]
theorem Zoy {c:C}{d:D}{l:List (M×C×D)}:owD ((.ow,c,d)::l)=d::owD l:=rfl
theorem Zox {m:M}(hm:m≠.ow){c:C}{d:D}{l:List (M×C×D)}:owD ((m,c,d)::l)=owD l:=by
 cases m<;>first|rfl|exact (hm rfl).elim
theorem Ysn {c:C}{d:D}{l:List (M×C×D)}{u:Value}{us:List Value}:Pa ((.ow,c,d)::l) (u::us)=u::Pa l us:=rfl
theorem Ysm {m:M}(hm:m≠.ow){c:C}{d:D}{l:List (M×C×D)}{u:Value}{us:List Value}:Pa ((m,c,d)::l) (u::us)=Pa l us:=by
 cases m<;>first|rfl|exact (hm rfl).elim
def Eu:List (M×C×D)->List Nat
 | []=>[]
 | (m,c,d)::l=>match m,c,d with
  | .io,.rf r _ _ _ _,.sl _ _=>r::Eu l
  | .ow,.rf r _ _ _ _,.sl _ _=>r::Eu l
  | _,_,_=>Eu l
theorem Zmo (a b:List (Nat×Ent)):A9 (a++b)=A9 a++A9 b:=by
 induction a with
 | nil=>rfl
 | cons x a ih=>obtain⟨i,e⟩:=x;cases e<;>simp [A9,ih]
theorem Zmq:∀(fl:List (M×C×D)) (k:Kk),A9 (Gw fl k).1=Eu fl
 | [],_=>rfl
 | (m,c,d)::l,k=>by
  simp only[Gw];rw[Zmo,Zmq l];cases d<;>cases m<;>cases c<;>simp [enC,Eu,A9,Rj,Pm]
theorem Zmp:∀(bs:List (Nat×Nat×Nat)) (b:Nat),A9 (enB bs b)=bs.map (·.1)
 | [],_=>rfl
 | (r,c,k)::l,b=>by simp [enB,A9,Zmp l]
theorem K2:∀{fl:List (M×C×D)}{n x:Nat},x∈Eu (Cm fl (Ap (owD fl) n).1)->x∈Bl fl\/n<=x
 | [],_,_,h=>by simp [Cm,Eu]at h
 | (m,c,d)::l,n,x,h=>by
  by_cases hm:m=.ow
  ·subst hm;rw[Zoy]at h;cases d with
   | lf v=>simp only[Ap,Cm,Eu]at h;exact K2 (fl:=l) h
   | hole=>simp only[Ap,Cm,Eu]at h;exact K2 (fl:=l) h
   | sl sz es =>
    simp only[Ap,Cm,Eu,Kh]at h;rcases h with rfl|h
    ·exact .inr (Kc _)
    rcases K2 (fl:=l) h with k|k
    ·exact .inl k
    exact .inr (by omega)
  rw[Zox hm,Ld hm]at h;cases m with
  | ow=>exact (hm rfl).elim
  | rd=>simp only[Eu,Bl]at h ⊢;exact K2 (fl:=l) h
  | rx=>simp only[Eu,Bl]at h ⊢;exact K2 (fl:=l) h
  | io =>
   cases c<;>cases d<;>simp only[Eu,Bl,Kh]at h ⊢<;>first|exact K2 (fl:=l) h|(rcases h with h|h;exact .inl (.inl h);exact (K2 (fl:=l) h).elim (fun k=>.inl (.inr k)) .inr)
theorem Qt:∀{fl:List (M×C×D)}{n:Nat},(Bl fl).Nodup->(∀x∈Bl fl,x<n)->(Eu (Cm fl (Ap (owD fl) n).1)).Nodup
 | [],_,_,_=>by simp [Cm,Eu]
 | (m,c,d)::l,n,h,hl=>by
  by_cases hm:m=.ow
  ·subst hm;rw[Zoy];have h':Bl ((.ow,c,d)::l)=Bl l:=rfl;rw[h']at h hl;cases d with
   | lf v=>simp only[Ap,Cm,Eu];exact Qt h hl
   | hole=>simp only[Ap,Cm,Eu];exact Qt h hl
   | sl sz es =>
    simp only[Ap,Cm,Eu,Kta];refine⟨fun hx=>?_,Qt h fun x hx=>by have:=hl x hx;omega⟩;rcases K2 hx with k|k
    ·have:=hl n k;omega
    omega
  rw[Zox hm,Ld hm];cases m with
  | ow=>exact (hm rfl).elim
  | rd=>simp only[Eu,Bl]at h hl ⊢;exact Qt h hl
  | rx=>simp only[Eu,Bl]at h hl ⊢;exact Qt h hl
  | io =>
   have key:∀r,(r::Bl l).Nodup->(∀x∈r::Bl l,x<n)->(r::Eu (Cm l (Ap (owD l) n).1)).Nodup:=by
    intro r h hl;simp only[Kta]at h ⊢;refine⟨fun hx=>?_,Qt h.2 fun x hx=>hl x (by simp [hx])⟩;rcases K2 hx with k|k
    ·exact h.1 k
    have:=hl r (by simp);omega
   cases c<;>cases d<;>simp only[Eu,Bl]at h hl ⊢<;>first|exact Qt h hl|exact key _ h hl
section
variable {w0:World} {own0:Nat->Nat->Prop} {pl0:Pls} {g:Lab} {pl:Pls} {roots:List (Nat×Root)} {nx nc fix:Nat} {w:World} {E:List (Nat×Ent)}
theorem Z3 {pl1:Pls}{X rt:List (Nat×Root)}{hand:List Nat}(hag:Es nx pl pl1) (hX:∀t,t<nx->get X t=get rt t) (hrt:∀t x,get rt t=some x->t<nx) (hE:∀x∈A9 E,x<nx->x∈hand){N:Nat} :
  ∀(fl:List (M×C×D)) (us:List Value) (n:Nat),Ab (CR pl nx) (fl.map (·.2.1)) us->Ab (CR pl1 N) (Ap (owD fl) n).1 (Pa fl us)->(∀x∈(Ap (owD fl) n).2.1,get X x.1=some x.2)->(∀x∈fl,Zbq rt hand x) ->
  Ab (U7 pl1 X E) (Cm fl (Ap (owD fl) n).1) us
 | [],[],_,_,_,_,_=>trivial
 | [],_::_,_,h,_,_,_=>h.elim
 | _::_,[],_,h,_,_,_=>h.elim
 | (m,c,d)::fl,u::us,n,h,ho,hx,hs=>by
  by_cases hm:m=.ow
  ·subst hm;rw[Zoy]at ho hx ⊢;rw[Ysn]at ho;cases d with
   | lf v=>exact⟨ho.1,Z3 hag hX hrt hE fl us n h.2 ho.2 hx fun x k=>hs x (by simp [k])⟩
   | hole=>exact⟨ho.1,Z3 hag hX hrt hE fl us n h.2 ho.2 hx fun x k=>hs x (by simp [k])⟩
   | sl sz es =>
    simp only[Ap]at ho hx ⊢;refine⟨.inr ⟨n,[],0,es.length,rfl,ho.1.2,.inr ⟨.inr rfl,rfl,sz,es,hx (n,.tr sz es) (by simp),rfl,rfl⟩⟩,Z3 hag hX hrt hE fl us (n+1) h.2 ho.2 (fun x k=>hx x (by simp [k])) fun x k=>hs x (by simp [k])⟩
  rw[Zox hm]at ho hx ⊢;rw[Ysm hm]at ho;rw[Ld hm];refine⟨?_,Z3 hag hX hrt hE fl us n h.2 ho hx fun x k=>hs x (by simp [k])⟩;have hsx:=hs (m,c,d) (by simp);have hc:CR pl nx c u:=h.1;cases d with
  | lf v =>
   have:c=.lf v:=by cases m<;>first|exact hsx|exact (hm rfl).elim
   subst this;exact hc
  | hole=>exact hc.one
  | sl sz es =>
   cases c with
   | nl s =>
    have:s=sz/\es=[]:=by cases m<;>first|exact hsx|exact (hm rfl).elim
    obtain⟨rfl,rfl⟩:=this;exact .inl ⟨rfl,rfl,hc⟩
   | rf r p s lo k =>
    have hw:Win (pl1 r p) s lo k u:=by rw[hag r p hc.1];exact hc.2
    by_cases hio:m=.io
    ·subst hio;obtain⟨rfl,rfl,rfl,sz0,es0,h1,h2⟩:=hsx;exact .inr ⟨r,p,0,es.length,rfl,hw,.inr ⟨.inl rfl,rfl,sz0,es0,by rw[hX r hc.1];exact h1,h2,rfl⟩⟩
    have:s=sz/\(lo=0\/0<k)/\r ∉ hand/\∃l,Dr rt r p=some (sz,l)/\lo+k<=l.length/\es=(l.drop lo).take k:=by
     cases m<;>first|exact hsx|exact (hm rfl).elim|exact (hio rfl).elim
    obtain⟨rfl,h1,h2,l,h3,h4,h5⟩:=this;refine .inr ⟨r,p,lo,k,rfl,hw,.inl ⟨?_,h1,fun hh=>h2 (hE r hh hc.1),l, ?_,h4,h5⟩⟩
    ·cases m<;>first|exact .inl rfl|exact .inr rfl|exact (hm rfl).elim|exact (hio rfl).elim
    unfold Dr at h3 ⊢;rw[hX r hc.1];exact h3
   | lf v=>cases m<;>first|exact hsx.elim|exact (hm rfl).elim
   | un=>cases m<;>first|exact hsx.elim|exact (hm rfl).elim
   | pe r p i c=>cases m<;>first|exact hsx.elim|exact (hm rfl).elim
   | pb r c=>cases m<;>first|exact hsx.elim|exact (hm rfl).elim
end
end Go.Vs
namespace Go.Vs
variable [Glb]
theorem Zv7:∀{fl:List (M×C×D)}{x:Nat},x∈Bl fl->∃p s lo n sz es,(M.io,C.rf x p s lo n,D.sl sz es)∈fl
 | [],_,h=>by simp [Bl]at h
 | (m,c,d)::l,x,h=>by
  have key:x∈Bl l->∃p s lo n sz es,(M.io,C.rf x p s lo n,D.sl sz es)∈(m,c,d)::l:=fun h=>by
   obtain⟨p,s,lo,n,sz,es,k⟩:=Zv7 (fl:=l) h;exact⟨p,s,lo,n,sz,es,by simp [k]⟩
  cases m<;>cases c<;>cases d<;>simp only[Bl,Kh]at h<;>first|exact key h|(rcases h with rfl|h;exact⟨_,_,_,_,_,_,Kp⟩;exact key h)
theorem Str.len {pl:Pls}{w:World}:∀{as:List Arg}{bs:List (Nat×Nat×Nat)}{us ws:List Value},Str pl w as bs us ws->bs.length=I4 as
 | [],[],_,[],_=>rfl
 | .val _ l::r,bs,us,v::ws,h=>by obtain⟨u1,u2,_,_,_,_,h⟩:=h;have:=Str.len (as:=r) h;exact this
 | .ptr l::r,x::bs,us,v::ws,h=>by obtain⟨_,u1,u2,_,_,_,_,h⟩:=h;simp only[Kf,I4];rw[Str.len h]
 | [],[],_,_::_,hs=>hs.elim
 | [],_::_,_,_,hs=>hs.elim
 | .val _ _::_,_,_,[],hs=>hs.elim
 | .ptr _::_,[],_,_,hs=>hs.elim
 | .ptr _::_,_::_,_,[],hs=>hs.elim
theorem Str.move {pl pl1:Pls}{w:World}:∀{as:List Arg}{bs:List (Nat×Nat×Nat)}{us ws:List Value},(∀x∈bs,pl1 x.1 []=pl x.1 [])->Str pl w as bs us ws->Str pl1 w as bs us ws
 | [],[],_,[],_,h=>h
 | .val _ l::r,bs,us,v::ws,hb,h=>by obtain⟨u1,u2,a,b,c,d,h⟩:=h;exact⟨u1,u2,a,b,c,d,Str.move (as:=r) hb h⟩
 | .ptr l::r,x::bs,us,v::ws,hb,h=>by
  obtain⟨a,u1,u2,b,c,d,e,h⟩:=h;have hx:=hb x (by simp);exact⟨a,u1,u2,b,c,by rw[hx];exact d,by rw[hx];exact e,Str.move (as:=r) (fun y hy=>hb y (by simp [hy])) h⟩
 | [],[],_,_::_,_,hs=>hs.elim
 | [],_::_,_,_,_,hs=>hs.elim
 | .val _ _::_,_,_,[],_,hs=>hs.elim
 | .ptr _::_,[],_,_,_,hs=>hs.elim
 | .ptr _::_,_::_,_,[],_,hs=>hs.elim
theorem Zfi:∀(bs:List (Nat×Nat×Nat)) (b:Nat),∀x∈enB bs b,b<=x.1/\x.1<b+bs.length
 | [],_,_,h=>by simp [enB]at h
 | (r,c,k)::l,b,x,h=>by
  simp only[enB,Kh]at h;simp only[Kf];rcases h with rfl|h
  ·simp only;omega
  have:=Zfi l (b+1) x h;omega
theorem Zuz:∀(bs:List (Nat×Nat×Nat)) (b:Nat),(Ids (enB bs b)).Nodup
 | [],_=>by simp [enB,Ids]
 | (r,c,k)::l,b=>by
  simp only[enB,Ids,Ke,Kta];refine⟨fun h=>?_,Zuz l (b+1)⟩;simp only[Ky]at h;obtain⟨x,hx,hb⟩:=h;have:=Zfi l (b+1) x hx;omega
theorem Zwe:∀{E:List (Nat×Ent)}{y x:Nat×Af},B0 E y=some x->∃e,(x.1,e)∈E
 | [],_,_,h=>by simp [B0]at h
 | (i,e)::l,y,x,h=>by
  have key:B0 l y=some x->∃e',(x.1,e')∈(i,e)::l:=fun h=>by
   obtain⟨e',k⟩:=Zwe (E:=l) h;exact⟨e',by simp [k]⟩
  cases e with
  | tree r p =>
   simp only[B0]at h;split at h
   ·simp only[Ka]at h;subst h;exact⟨_,Kp⟩
   exact key h
  | box r c k =>
   simp only[B0]at h;split at h
   ·split at h
    ·simp only[Ka]at h;subst h;exact⟨_,Kp⟩
    exact key h
   exact key h
  | read r p lo sz=>exact key h
  | nil sz=>exact key h
def Eh (fl:List (M×C×D)) (n:Nat) (bs:List (Nat×Nat×Nat)) (as:List Arg):List (Nat×Ent) :=
 (Gw (Cm fl (Ap (owD fl) n).1) (0,B3 as)).1++enB bs (C8 (flat as))
section
variable {w0:World} {own0:Nat->Nat->Prop} {pl0:Pls} {g:Lab} {pl:Pls} {roots:List (Nat×Root)} {nx nc fix:Nat} {w:World}
structure Entered (w0:World) (own0:Nat->Nat->Prop) (pl0:Pls) (pl:Pls) (nx fix:Nat) (w:World) (vs:List V) (ws:List Value) (as:List Arg) (fl:List (M×C×D)) (rt:List (Nat×Root)) (g1:Lab) (pl1:Pls):Prop where
 hp:Hp w0 own0 pl0 g1 pl1 ((Ap (owD fl) nx).2.1++rt) (Ap (owD fl) nx).2.2 nx fix w
 agree:Es nx pl pl1
 rtlt:∀t x,get rt t=some x->t<nx
 ids:(Ids (Eh fl nx (Bf vs as) as)).Nodup
 hand:(A9 (Eh fl nx (Bf vs as) as)).Nodup
 md:fl.map md=flat as
 bxs:∀x∈Bf vs as,x.1<nx/\∃cs,get rt x.1=some (.bx cs)/\get roots x.1=some (.bx cs)/\x.2.1+x.2.2<=cs.length
 blen:(Bf vs as).length=I4 as
 inn:Hp w (Dy g1 (Eh fl nx (Bf vs as) as)) (plE pl1 (Eh fl nx (Bf vs as) as)) (F1 g1 (Eh fl nx (Bf vs as) as)) (plE pl1 (Eh fl nx (Bf vs as) as)) (Bm as).2.1 (Bm as).2.2 (Bm as).2.2 (B3 as) w
 good:∃us,Ab (CR pl nx) (fl.map (·.2.1)) us/\Ab (U7 pl1 ((Ap (owD fl) nx).2.1++rt) (Eh fl nx (Bf vs as) as)) (Cm fl (Ap (owD fl) nx).1) us
 args:Ab (VR (plE pl1 (Eh fl nx (Bf vs as) as)) (Bm as).2.2) (Bm as).1 ws
theorem Zgv:∀(ds:List D) (n:Nat),((Ap ds n).2.1.map (·.1)).Nodup
 | [],n=>by simp [Ap]
 | .lf v::l,n=>Zgv l n
 | .hole::l,n=>Zgv l n
 | .sl sz es::l,n=>by
  simp only[Ap,Ke,Kta];refine⟨fun h=>?_,Zgv l (n+1)⟩;simp only[Ky]at h;obtain⟨x,hx,e⟩:=h;have:=((Hs l (n+1)).2 x hx).1;omega
theorem Zij:∀{cs:List C}{roots rt:List (Nat×Root)}{ds:List D},Cx roots cs=some (ds,rt)->∀r bs,get roots r=some (.bx bs)->get rt r=some (.bx bs)
 | [],roots,rt,ds,h,r,bs,hr=>by simp only[Cx,Ka,Kb]at h;obtain⟨_,rfl⟩:=h;exact hr
 | c::cs,roots,rt,ds,h,r,bs,hr=>by
  simp only[Cx]at h;split at h
  ·rename_i d r1 h1;split at h
   ·rename_i d2 r2 h2;simp only[Ka,Kb]at h;obtain⟨_,rfl⟩:=h;refine Zij h2 r bs ?_;unfold Dh at h1;split at h1
    ·simp only[Ka,Kb]at h1;obtain⟨_,rfl⟩:=h1;exact hr
    ·simp only[Ka,Kb]at h1;obtain⟨_,rfl⟩:=h1;exact hr
    ·split at h1
     ·rename_i hg;split at h1
      ·split at h1
       ·simp only[Ka,Kb]at h1;obtain⟨_,rfl⟩:=h1;rw[Vm]
        ·exact hr
        rintro rfl;rw[hr]at hg;simp at hg
       simp at h1
      simp at h1
     simp at h1
    simp at h1
   simp at h
  simp at h
theorem enter (h:Hp w0 own0 pl0 g pl roots nx nx fix w){vs:List V}{ws:List Value}{as:List Arg}{fl:List (M×C×D)}{rt:List (Nat×Root)}(hv:Ab (VR pl nx) vs ws) (hf:Hi roots vs as=some fl)
  (ht:Cx roots (owC fl)=some (owD fl,rt)) (hnd:(Bl fl++(Bf vs as).map (·.1)).Nodup) (hs:∀x∈fl,Zbq rt (Bl fl++(Bf vs as).map (·.1)) x) :
  ∃g1 pl1,Entered (roots:=roots) w0 own0 pl0 pl nx fix w vs ws as fl rt g1 pl1:=by
 obtain⟨us,c1,hstr0,hmd,hbx⟩:=Zvr h (fun _ _ _=>rfl) vs ws as fl hv hf;obtain⟨g1,pl1,hA,hag,hos,hrt⟩:=Zbx (owC fl) (Pa fl us) roots (owD fl) rt g pl nx h (Zy8 c1) ht;have hstr:Str pl1 w as (Bf vs as) us ws:=hstr0.move fun x hx=>hag _ _ (hbx x hx).1;have hgl:∀b o v,F0 b o=some v->b<w.heap.size/\¬Dy g1 (Eh fl nx (Bf vs as) as) b o/\w.cell? ⟨b,o,none⟩=some v:=fun b o v hv=>by
  obtain⟨q1,q2,q3⟩:=hA.fr.gl b o v hv;refine⟨Kz q1 hA.fr.size, ?_,hA.fr.glb hv⟩;intro k;unfold Dy F1 at k;cases hg:g1 b o with
  | none=>rw[hg]at k;simp at k
  | some z =>
   rcases (hA.lab b o z hg).2.1 with q|q
   ·omega
   exact q2 q
 have hlen:=hstr.len;have hle:=Hs (owD fl) nx;have hX:∀t,t<nx->get ((Ap (owD fl) nx).2.1++rt) t=get rt t:=by
  intro t ht;rw[Ea,Z2 (fun x hx=>by have:=(hle.2 x hx).1;omega)]
 have hioLt:∀x∈Bl fl,x<nx:=by
  intro x hx;obtain⟨p,s,lo,n,sz,es,hm⟩:=Zv7 hx;obtain⟨_,_,_,sz0,es0,hr,_⟩:=hs _ hm;exact hrt x _ hr
 have hmd':(Cm fl (Ap (owD fl) nx).1).map md=flat as:=by rw[Za7];exact hmd
 have hF:B3 as=C8 (flat as)+I4 as:=rfl;have hk1:(Au (flat as) (0,B3 as)).2.2.1=C8 (flat as):=by rw[Znd];simp
 have hk2:=(Ot (flat as) (0,B3 as)).2;have hhand:(A9 (Eh fl nx (Bf vs as) as))=Eu (Cm fl (Ap (owD fl) nx).1)++(Bf vs as).map (·.1):=by
  unfold Eh;rw[Zmo,Zmq,Zmp]
 rw[Kdd]at hnd;have hHand:(A9 (Eh fl nx (Bf vs as) as)).Nodup:=by
  rw[hhand,Kdd];refine⟨Qt hnd.1 hioLt,hnd.2.1, ?_⟩;rintro a ha b hb rfl;rcases K2 ha with k|k
  ·exact hnd.2.2 a k a hb rfl
  simp only[Ky]at hb;obtain⟨x,hx,rfl⟩:=hb;have:=(hbx x hx).1;omega
 have hmemHand:∀x∈A9 (Eh fl nx (Bf vs as) as),x<nx->x∈Bl fl++(Bf vs as).map (·.1):=by
  intro x hx hlt;rw[hhand,Kca]at hx;rcases hx with hx|hx
  ·rcases K2 hx with k|k
   ·exact Kca.2 (.inl k)
   omega
  exact Kca.2 (.inr hx)
 have hBtw:∀x∈(Gw (Cm fl (Ap (owD fl) nx).1) (0,B3 as)).1,x.1<C8 (flat as)\/(B3 as<=x.1/\x.1<(Bm as).2.2):=by
  intro x hx;have:=Zl2 hx;rw[hmd']at this;unfold Btw at this;rcases this with k|k
  ·rw[hk1]at k;exact .inl k.2
  exact .inr k
 have hIds:(Ids (Eh fl nx (Bf vs as) as)).Nodup:=by
  have h1:=Zu1 (Cm fl (Ap (owD fl) nx).1) (0,B3 as) (B3 as) (by rw[hmd',hk1,hF];omega) (Kc _);have h2:=Zuz (Bf vs as) (C8 (flat as));unfold Eh Ids at *
  rw[Kx,Kdd];refine⟨h1,h2, ?_⟩;intro a ha b hb e;simp only[Ky]at ha hb;obtain⟨x,hx,rfl⟩:=ha;obtain⟨y,hy,rfl⟩:=hb;have t1:=hBtw x hx;have t2:=Zfi _ _ y hy;omega
 have hbx':∀x∈Bf vs as,∃cs,get ((Ap (owD fl) nx).2.1++rt) x.1=some (.bx cs)/\x.2.1+x.2.2<=cs.length:=by
  intro x hx;obtain⟨h1,cs,h2,h3⟩:=hbx x hx;exact⟨cs,by rw[hX _ h1];exact Zij ht _ _ h2,h3⟩
 have hgood:Ab (U7 pl1 ((Ap (owD fl) nx).2.1++rt) (Eh fl nx (Bf vs as) as)) (Cm fl (Ap (owD fl) nx).1) us:=by
  refine Z3 (hand:=Bl fl++(Bf vs as).map (·.1)) hag hX hrt hmemHand fl us nx c1 hos ?_ hs;intro x hx;have:=Hk (Zgv (owD fl) nx) hx;rw[Ea,this]
 have hN1:C8 (flat as)<=(Bm as).2.2:=by show _<=(Au (flat as) (0,B3 as)).2.2.2;omega
 have hcells:=Zu2 hA hIds hHand (N:=(Bm as).2.2) _ us (0,B3 as) hgood (fun x hx=>Kca.2 (.inl hx)) (by rw[hmd',hk1];exact hN1) (by rw[hmd'];exact Kc _);rw[hmd']at hcells;have hargs:=Zfk hA hIds hHand (N:=(Bm as).2.2) (Fj w (Dy g1 (Eh fl nx (Bf vs as) as))) as (Bf vs as) us ws _ (C8 (flat as)) hstr hcells.1 (fun x hx=>Kca.2 (.inr hx)) hbx' (by show _<=(Au (flat as) (0,B3 as)).2.2.2;omega);refine⟨g1,pl1,hA,hag,hrt,hIds,hHand,hmd, ?_,hlen,⟨Fr.refl _ _ hgl, ?_,fun _ _ _=>rfl,hk2,Kc _, ?_⟩,⟨us,c1,hgood⟩,hargs.1⟩
 ·intro x hx;obtain⟨h1,cs,h2,h3⟩:=hbx x hx;exact⟨h1,cs,Zij ht _ _ h2,h2,h3⟩
 ·intro b o x hx;refine⟨?_,.inr (by unfold Dy;rw[hx];rfl), ?_⟩
  ·unfold F1 at hx;simp only[Kg]at hx;obtain⟨y,hy,_⟩:=hx;exact (hA.lab b o y hy).1
  unfold F1 at hx;simp only[Kg]at hx;obtain⟨y,_,hy⟩:=hx;obtain⟨e,he⟩:=Zwe hy;unfold Eh at he;rcases Kca.1 he with k|k
  ·have:=hBtw _ k;simp only at this;omega
  have:=Zfi _ _ _ k;simp only at this;show _<(Au (flat as) (0,B3 as)).2.2.2;omega
 intro r x hx;have:=Na hx;rcases Kca.1 this with k|k
 ·exact hcells.2 _ k
 exact hargs.2 _ k
end
end Go.Vs
namespace Go.Vs
variable [Glb]
def Vf (E:List (Nat×Ent)) (n0 n1:Nat) (y:Nat×Af):Option (Nat×Af) :=
 if n1<=y.1 then some (y.1-n1+n0,y.2) else match get E y.1 with
  | some (.tree r p)=>if r<n0 then some (r,p++y.2) else none
  | some (.box r c _)=>match y.2 with|[(0,j)]=>if r<n0 then some (r,[(0,c+j)]) else none|_=>none
  | _=>none
def Ge (g1:Lab) (E:List (Nat×Ent)) (n0 n1:Nat) (g2:Lab):Lab:=fun b o =>
 match g2 b o with
 | some y=>Vf E n0 n1 y
 | none=>match g1 b o with
  | some z=>if (B0 E z).isSome=true\/n0<=z.1 then none else some z
  | none=>none
def plB (pl1 pl2:Pls) (n0 n1:Nat):Pls:=fun r q=>if r<n0 then pl1 r q else pl2 (r-n0+n1) q
theorem V5:∀{E:List (Nat×Ent)}{id r:Nat}{p q:Af},(A9 E).Nodup->(id,Ent.tree r p)∈E->¬p <+: q->B0 E (r,q)=none
 | [],_,_,_,_,_,h,_=>by simp at h
 | (k,e)::l,id,r,p,q,hn,h,hq=>by
  rcases Kh.1 h with h0|h1
  ·simp only[Kb]at h0;obtain⟨rfl,rfl⟩:=h0;simp only[A9,Kta]at hn;simp only[B0];rw[if_neg (fun k=>hq k.2)];exact Ol hn.1
  have hm:=Zn9 h1;cases e with
  | tree r' p' =>
   simp only[A9,Kta]at hn;simp only[B0];rw[if_neg (fun k=>hn.1 (by rw[<-k.1];exact hm))];exact V5 hn.2 h1 hq
  | box r' c k =>
   simp only[A9,Kta]at hn;simp only[B0];split
   ·rw[if_neg (fun k=>hn.1 (by rw[<-k.1];exact hm))];exact V5 hn.2 h1 hq
   exact V5 hn.2 h1 hq
  | read r' p' lo sz=>simp only[A9]at hn;simp only[B0];exact V5 hn h1 hq
  | nil sz=>simp only[A9]at hn;simp only[B0];exact V5 hn h1 hq
theorem Z6:∀{E:List (Nat×Ent)}{id r c k i:Nat},(A9 E).Nodup->(id,Ent.box r c k)∈E->¬(c<=i/\i<c+k)->B0 E (r,[(0,i)])=none
 | [],_,_,_,_,_,_,h,_=>by simp at h
 | (k0,e)::l,id,r,c,k,i,hn,h,hq=>by
  rcases Kh.1 h with h0|h1
  ·simp only[Kb]at h0;obtain⟨rfl,rfl⟩:=h0;simp only[A9,Kta]at hn;simp only[B0];rw[if_neg (fun k=>hq k.2)];exact Ol hn.1
  have hm:=Zn8 h1;cases e with
  | tree r' p' =>
   simp only[A9,Kta]at hn;simp only[B0];rw[if_neg (fun k=>hn.1 (by rw[<-k.1];exact hm))];exact Z6 hn.2 h1 hq
  | box r' c' k' =>
   simp only[A9,Kta]at hn;simp only[B0];rw[if_neg (fun k=>hn.1 (by rw[<-k.1];exact hm))];exact Z6 hn.2 h1 hq
  | read r' p' lo sz=>simp only[A9]at hn;simp only[B0];exact Z6 hn h1 hq
  | nil sz=>simp only[A9]at hn;simp only[B0];exact Z6 hn h1 hq
section
variable {w0:World} {own0:Nat->Nat->Prop} {pl0:Pls} {g1 g2:Lab} {pl1 pl2:Pls} {X Y:List (Nat×Root)} {nA n0 fix nC n1 F nF:Nat} {w w':World} {E:List (Nat×Ent)}
theorem Zkf (hA:Hp w0 own0 pl0 g1 pl1 X nA n0 fix w) (hC:Hp w (Dy g1 E) (plE pl1 E) g2 pl2 Y nC n1 F w'){b o:Nat}{z:Nat×Af}(hz:g1 b o=some z) (hm:B0 E z=none) (hlt:z.1<n0) :
  Ge g1 E n0 n1 g2 b o=some z/\w'.cell? ⟨b,o,none⟩=w.cell? ⟨b,o,none⟩/\w'.frozen? ⟨b,o,none⟩=w.frozen? ⟨b,o,none⟩:=by
 have hb:=(hA.lab b o z hz).1;have hno:¬Dy g1 E b o:=by unfold Dy F1;rw[hz,Kra,hm];simp
 refine⟨?_,hC.fr.cell b o hb hno⟩;unfold Ge;cases hg:g2 b o with
 | none=>simp only[hz,hm];rw[if_neg];rintro (k|k);simp at k;omega
 | some y =>
  exfalso;rcases (hC.lab b o y hg).2.1 with k|k
  ·omega
  exact hno k
theorem Yey (hA:Hp w0 own0 pl0 g1 pl1 X nA n0 fix w){b o:Nat}(h:Fj w0 own0 b o):b<w.heap.size/\¬Dy g1 E b o:=by
 refine⟨Kz h.1 hA.fr.size,fun k=>?_⟩;unfold Dy F1 at k;cases hg:g1 b o with
 | none=>rw[hg]at k;simp at k
 | some z =>
  rcases (hA.lab b o z hg).2.1 with q|q
  ·have:=h.1;omega
  exact h.2 q
theorem Lb {r:Nat}(h:r<n0) (q:Af):plB pl1 pl2 n0 n1 r q=pl1 r q:=by unfold plB;rw[if_pos h]
theorem Za1 {id:Nat}(h:n1<=id) (q:Af):plB pl1 pl2 n0 n1 (id-n1+n0) q=pl2 id q:=by unfold plB;rw[if_neg (by omega),show id-n1+n0-n0+n1=id by omega]
theorem Ve (hF:n0<=nF){x:C}{v:Value}(h:CR pl1 n0 x v):CR (plB pl1 pl2 n0 n1) nF x v:=(h.agree fun r p hr=>Lb hr p).mono hF
theorem Zke (hA:Hp w0 own0 pl0 g1 pl1 X nA n0 fix w) (hC:Hp w (Dy g1 E) (plE pl1 E) g2 pl2 Y nC n1 F w') (hF:n0<=nF){r:Nat}(hr:r<n0) (hh:r ∉ A9 E){x:Root}(hx:get X r=some x) :
  Dj (Fj w0 own0) w' (Ge g1 E n0 n1 g2) (plB pl1 pl2 n0 n1) nF r x:=by
 refine Keep.root' (w:=w) (g:=g1) (pl:=pl1) (nx:=n0) ⟨?_, ?_,fun q=>Lb hr q⟩ (fun x v=>Ve hF) (hA.roots r x hx).2
 ·intro b o q hb;exact Zkf hA hC hb (Ol hh) hr
 intro b o hst;obtain⟨h1,h2⟩:=Yey (E:=E) hA hst;exact (hC.fr.cell b o h1 h2).1
theorem Zsi (hC:Hp w (Dy g1 E) (plE pl1 E) g2 pl2 Y nC n1 F w'){id sz:Nat}{es:List (List D)}(hid:n1<=id) (hx:get Y id=some (.tr sz es)) (st:Nat->Nat->Prop) :
  Dj st w' (Ge g1 E n0 n1 g2) (plB pl1 pl2 n0 n1) nF (id-n1+n0) (.tr sz es):=by
 intro q m hq;obtain⟨a,b⟩:=(hC.roots id _ hx).2 q m hq;refine⟨a.move (Za1 hid q) (fun i c _ _ _ _=>Za1 hid _) fun _ _=>rfl,b.move (Za1 hid q) fun b o hb=>⟨?_,fun z=>z,rfl⟩⟩;unfold Ge Vf;rw[hb];simp [hid]
theorem Yex (hA:Hp w0 own0 pl0 g1 pl1 X nA n0 fix w) (hC:Hp w (Dy g1 E) (plE pl1 E) g2 pl2 Y nC n1 F w') (hn:(Ids E).Nodup) (hh:(A9 E).Nodup) (hFn:F<=n1){id r:Nat}{p:Af}(hE:(id,Ent.tree r p)∈E) (hid:id<F) (hr:r<n0)
  {sz0:Nat} {es0:List (List D)} (hx:get X r=some (.tr sz0 es0)) {sz:Nat} {es es':List (List D)} (hp:Am sz0 es0 p=some (sz,es)) (hy:get Y id=some (.tr sz es')) (hl:es'.length=es.length) (st:Nat->Nat->Prop) :
  Dj st w' (Ge g1 E n0 n1 g2) (plB pl1 pl2 n0 n1) nF r (.tr sz0 (D0 es0 p fun _=>es')):=by
 have hg:=Hk hn hE;have hpl:∀q,pl2 id q=pl1 r (p++q):=fun q=>by rw[hC.fixed id q hid];unfold plE;rw[hg]
 intro q m hq;rcases Ziz (f:=fun _=>es') hp hl q m hq with ⟨q',rfl,h⟩|⟨m0,h1,h2,h3,h4⟩
 ·obtain⟨a,b⟩:=(hC.roots id _ hy).2 q' m h;refine⟨a.move (by rw[Lb hr,hpl]) (fun i c _ _ _ _=>by rw[Lb hr,hpl,Kva]) fun _ _=>rfl,b.move (by rw[Lb hr,hpl]) fun b o hb=>⟨?_,fun z=>z,rfl⟩⟩;unfold Ge Vf;rw[hb];simp only;rw[if_neg (by omega),hg];simp [hr]
 obtain⟨a,b⟩:=(hA.roots r _ hx).2 q m0 h1;have hnone:=V5 hh hE h2;have key:∀b o,g1 b o=some (r,q)->Ge g1 E n0 n1 g2 b o=some (r,q)/\w'.cell? ⟨b,o,none⟩=w.cell? ⟨b,o,none⟩/\w'.frozen? ⟨b,o,none⟩=w.frozen? ⟨b,o,none⟩:=fun b o hb=>Zkf hA hC hb hnone hr;have a':NodeC w' (plB pl1 pl2 n0 n1) r q m0.1 m0.2:=a.move (Lb hr q) (fun i c _ _ _ _=>Lb hr _) fun j hj=>by
  have:=Kac m0.1 a.le;exact (key _ _ (b j (by rw[a.szp];omega)).1).2.1
 refine⟨?_,b.move (Lb hr q) fun b o hb=>⟨(key b o hb).1,fun ⟨v,hv⟩=>⟨v,by rw[(key b o hb).2.1];exact hv⟩,(key b o hb).2.2⟩⟩;rw[h3];exact a'.sim h4
theorem Yew (hA:Hp w0 own0 pl0 g1 pl1 X nA n0 fix w) (hC:Hp w (Dy g1 E) (plE pl1 E) g2 pl2 Y nC n1 F w') (hF:n0<=nF) (hn:(Ids E).Nodup) (hh:(A9 E).Nodup) (hFn:F<=n1){id r c k:Nat}(hE:(id,Ent.box r c k)∈E) (hid:id<F) (hr:r<n0)
  {cs:List C} (hx:get X r=some (.bx cs)) (hck:c+k<=cs.length) {ys zs:List C} (hy:get Y id=some (.bx ys)) (hyl:ys.length=k) (hzl:zs.length=k)
  (hz:∀(j:Nat) (y z:C) (v:Value),ys[j]? = some y->zs[j]? = some z->w'.cell? ⟨(pl1 r []).b,(pl1 r []).off+(c+j),none⟩=some v->CR pl2 n1 y v->CR (plB pl1 pl2 n0 n1) nF z v) (st:Nat->Nat->Prop) :
  Dj st w' (Ge g1 E n0 n1 g2) (plB pl1 pl2 n0 n1) nF r (.bx (cs.take c++(zs++cs.drop (c+k)))):=by
 have hg:=Hk hn hE;have hpl:pl2 id []=⟨false,(pl1 r []).b,(pl1 r []).off+c,0,1,none⟩:=by rw[hC.fixed id [] hid];unfold plE;rw[hg]
 have out:∀(i:Nat) (x:C),¬(c<=i/\i<c+k)->cs[i]? = some x->∃v,w'.cell? ⟨(plB pl1 pl2 n0 n1 r []).b,(plB pl1 pl2 n0 n1 r []).off+i,none⟩=some v/\CR (plB pl1 pl2 n0 n1) nF x v/\Ge g1 E n0 n1 g2 (plB pl1 pl2 n0 n1 r []).b ((plB pl1 pl2 n0 n1 r []).off+i)=some (r,[(0,i)])/\w'.frozen? ⟨(plB pl1 pl2 n0 n1 r []).b,(plB pl1 pl2 n0 n1 r []).off+i,none⟩=false:=by
  intro i x hi hxi;obtain⟨v,h1,h2,h3,h4⟩:=(hA.roots r _ hx).2 i x hxi;obtain⟨a,b,d⟩:=Zkf hA hC h3 (Z6 hh hE hi) hr;rw[Lb hr];exact⟨v,by rw[b];exact h1,Ve hF h2,a,by rw[d];exact h4⟩
 intro i x hi;by_cases h1:i<c
 ·rw[Ksa (by simp;omega),Kwa,if_pos h1]at hi;exact out i x (by omega) hi
 rw[Kia (by simp;omega)]at hi;have hlen:(cs.take c).length=c:=by simp;omega
 rw[hlen]at hi;by_cases h2:i<c+k
 ·rw[Ksa (by omega)]at hi;obtain⟨y,hyj⟩:∃y,ys[i-c]? = some y:=⟨_,Ku (by omega)⟩;obtain⟨v,e1,e2,e3,e4⟩:=(hC.roots id _ hy).2 (i-c) y hyj;rw[hpl]at e1 e3 e4;simp only[Kgb]at e1 e3 e4;rw[Lb hr];have hic:c+(i-c)=i:=by omega
  refine⟨v,by rw[hic]at e1;exact e1,hz (i-c) y x v hyj hi e1 e2, ?_,by rw[hic]at e4;exact e4⟩;rw[hic]at e3;unfold Ge Vf;rw[e3];simp only;rw[if_neg (by omega),hg];simp [hr,hic]
 rw[Kia (by omega),Kdb,hzl,show c+k+(i-c-k)=i by omega]at hi;exact out i x (by omega) hi
theorem Zkd (hA:Hp w0 own0 pl0 g1 pl1 X nA n0 fix w) (hC:Hp w (Dy g1 E) (plE pl1 E) g2 pl2 Y nC n1 F w') (hF:n0<=nF) (hnF:∀id,n1<=id->id<nC->id-n1+n0<nF) (hfix:fix<=n0){R:List (Nat×Root)}
  (hR:∀r x,get R r=some x->r<nF/\Dj (Fj w0 own0) w' (Ge g1 E n0 n1 g2) (plB pl1 pl2 n0 n1) nF r x) :
  Hp w0 own0 pl0 (Ge g1 E n0 n1 g2) (plB pl1 pl2 n0 n1) R nF nF fix w':=by
 have own:∀b o,Dy g1 E b o->b<w.heap.size/\(w0.heap.size<=b\/own0 b o):=by
  intro b o k;unfold Dy F1 at k;cases hg:g1 b o with
  | none=>rw[hg]at k;simp at k
  | some z=>have:=hA.lab b o z hg;exact⟨this.1,this.2.1⟩
 refine⟨⟨?_, ?_, ?_, ?_, ?_, ?_,hA.fr.gl⟩, ?_, ?_,by omega,Kc _,hR⟩
 ·exact hC.fr.os.trans hA.fr.os
 ·exact hC.fr.tape.trans hA.fr.tape
 ·exact hC.fr.output.trans hA.fr.output
 ·exact Kla hA.fr.size hC.fr.size
 ·intro b hb ho;have hb':=Kz hb hA.fr.size;rw[hC.fr.block b hb' fun o k=>?_,hA.fr.block b hb ho];rcases (own b o k).2 with q|q
  ·omega
  exact ho o q
 ·intro b o hb ho;have hb':=Kz hb hA.fr.size;have hno:¬Dy g1 E b o:=fun k=>by
   rcases (own b o k).2 with q|q
   ·omega
   exact ho q
  obtain⟨a,b1⟩:=hC.fr.cell b o hb' hno;obtain⟨c,d⟩:=hA.fr.cell b o hb ho;exact⟨a.trans c,b1.trans d⟩
 ·intro b o x hx;unfold Ge at hx;split at hx
  ·rename_i y hy;obtain⟨h1,h2,h3⟩:=hC.lab b o y hy;refine⟨h1, ?_, ?_⟩
   ·rcases h2 with k|k
    ·exact .inl (Kla hA.fr.size k)
    exact (own b o k).2
   unfold Vf at hx;split at hx
   ·rename_i hle;simp only[Ka]at hx;subst hx;exact hnF _ hle h3
   split at hx
   ·split at hx
    ·simp only[Ka]at hx;subst hx;simp only;omega
    simp at hx
   ·split at hx
    ·split at hx
     ·simp only[Ka]at hx;subst hx;simp only;omega
     simp at hx
    simp at hx
   simp at hx
  split at hx
  ·rename_i z hz;split at hx
   ·simp at hx
   rename_i hno;simp only[Ka]at hx;subst hx;obtain⟨h1,h2,h3⟩:=hA.lab b o _ hz;exact⟨Kz h1 hC.fr.size,h2,by omega⟩
  simp at hx
 intro r p hr;rw[Lb (by omega)];exact hA.fixed r p hr
end
end Go.Vs
namespace Go.Vs
variable [Glb]
theorem Zas:∀(ds:List D) (a b:Nat) (r:Nat) (x:Root),get (Ap ds a).2.1 r=some x->a<=r/\get (Ap ds b).2.1 (r-a+b)=some x/\∃sz es,x=.tr sz es
 | [],a,b,r,x,h=>by simp [Ap,get]at h
 | .lf v::l,a,b,r,x,h=>Zas l a b r x h
 | .hole::l,a,b,r,x,h=>Zas l a b r x h
 | .sl sz es::l,a,b,r,x,h=>by
  simp only[Ap,get]at h ⊢;split at h
  ·rename_i e;subst e;simp only[Ka]at h;subst h;exact⟨Kc _,by rw[if_pos (by omega)],_,_,rfl⟩
  obtain⟨h1,h2,h3⟩:=Zas l (a+1) (b+1) r x h;refine⟨by omega, ?_,h3⟩;rw[if_neg (by omega)];rw[show r-a+b=r-(a+1)+(b+1) by omega];exact h2
theorem Zar {pl1 pl2:Pls}{n0 n1 nC nF:Nat}(hnF:∀id,n1<=id->id<nC->id-n1+n0<nF):∀(ds:List D) (us:List Value) (j:Nat),Ab (CR pl2 nC) (Ap ds (n1+j)).1 us->Ab (CR (plB pl1 pl2 n0 n1) nF) (Ap ds (n0+j)).1 us
 | [],[],_,_=>trivial
 | [],_::_,_,h=>h.elim
 | .lf v::l,[],_,h=>h.elim
 | .hole::l,[],_,h=>h.elim
 | .sl sz es::l,[],_,h=>h.elim
 | .lf v::l,u::us,j,h=>⟨h.1,Zar hnF l us j h.2⟩
 | .hole::l,u::us,j,h=>⟨h.1,Zar hnF l us j h.2⟩
 | .sl sz es::l,u::us,j,h=>by
  simp only[Ap]at h ⊢;obtain⟨h1,h2⟩:=h;have e:n0+j=n1+j-n1+n0:=by omega
  refine⟨⟨?_, ?_⟩,Zar hnF l us (j+1) h2⟩
  ·rw[e];exact hnF _ (by omega) h1.1
  rw[e,Za1 (by omega)];exact h1.2
theorem Zyi (ds:List D):∀(a b:Nat),(Ap ds a).2.2-a=(Ap ds b).2.2-b:=by
 induction ds with
 | nil=>intro a b;simp [Ap]
 | cons d ds ih =>
  intro a b;cases d with
  | lf v=>exact ih a b
  | hole=>exact ih a b
  | sl sz es =>
   have:=ih (a+1) (b+1);have h1:=(Hs ds (a+1)).1;have h2:=(Hs ds (b+1)).1;simp only[Ap];omega
def shA (x:A):Bool×Nat:=((Dn x).1,(Dn x).2.length)
theorem Yfk {pl:Pls}{nx:Nat}{x:A}{v:Value}(h:AR pl nx x v):∃us,Ab (CR pl nx) (Dn x).2 us/\∀(pl2:Pls) (nx2:Nat) (ys:List C),ys.length=(Dn x).2.length->Ab (CR pl2 nx2) ys us->AR pl2 nx2 (O4 (Dn x).1 ys) v:=by
 cases x with
 | c c =>
  refine⟨[v],⟨h,trivial⟩,fun pl2 nx2 ys hl hy=>?_⟩
  match ys,hl,hy with
  | [y],_,hy=>exact hy.1
 | ag cs =>
  obtain⟨us,rfl,hu⟩:=h;exact⟨us,hu,fun pl2 nx2 ys hl hy=>⟨us,rfl,hy⟩⟩
theorem Zk4 {pl:Pls}{nx:Nat}:∀{xs:List A}{vs:List Value},Ab (AR pl nx) xs vs->∃us,Ab (CR pl nx) (xs.flatMap fun x=>(Dn x).2) us/\∀(pl2:Pls) (nx2:Nat) (os:List (Bool×List D)) (ys:List C) (more:List Value),xs.map shA=os.map (fun x=>(x.1,x.2.length))->Ab (CR pl2 nx2) ys (us++more)->Ab (AR pl2 nx2) (Gh os ys) vs
 | [],[],_=>⟨[],trivial,fun pl2 nx2 os ys more ho hy=>by
   cases os with
   | nil=>trivial
   | cons o os=>simp at ho⟩
 | [],_::_,h=>h.elim
 | _::_,[],h=>h.elim
 | x::xs,v::vs,h=>by
  obtain⟨u1,h1,k1⟩:=Yfk h.1;obtain⟨u2,h2,k2⟩:=Zk4 h.2;refine⟨u1++u2,by rw[Kxa];exact Ab.append h1 h2,fun pl2 nx2 os ys more ho hy=>?_⟩;cases os with
  | nil=>simp at ho
  | cons o os =>
   obtain⟨ag,ds⟩:=o;simp only[Ke,List.cons.injEq,shA,Kb]at ho;obtain⟨⟨e1,e2⟩,e3⟩:=ho;have hl1:u1.length=ds.length:=by rw[<-h1.length,e2]
   rw[Kva]at hy;have t:=Ab.take ds.length hy;have dd:=Ab.drop ds.length hy;rw[Ked hl1]at t;rw[Kqc hl1]at dd;simp only[Gh];refine⟨?_,k2 pl2 nx2 os _ more (by rw[<-e3]) dd⟩;rw[<-e1];exact k1 pl2 nx2 _ (by rw[t.length,hl1,e2]) t
theorem Zz4 {pl:Pls}{nx:Nat}{x:V}{v:Value}{xs:List A}(hc:J8 x=some xs) (h:VR pl nx x v):∃us,Ab (CR pl nx) (xs.flatMap fun x=>(Dn x).2) us/\∀(pl2:Pls) (nx2:Nat) (os:List (Bool×List D)) (ys:List C) (more:List Value),xs.map shA=os.map (fun x=>(x.1,x.2.length))->Ab (CR pl2 nx2) ys (us++more)->VR pl2 nx2 (Fc (Gh os ys)) v:=by
 unfold J8 at hc;split at hc
 ·simp only[Ka]at hc;subst hc;obtain⟨us,h1,h2⟩:=Zk4 (pl:=pl) (nx:=nx) (xs:=[_]) (vs:=[v]) ⟨h,trivial⟩;refine⟨us,h1,fun pl2 nx2 os ys more ho hy=>?_⟩;have:=h2 pl2 nx2 os ys more ho hy
  match hq:Gh os ys,this with
  | [y],this=>exact this.1
 ·simp at hc
 ·rename_i xs' hne;simp only[Ka]at hc;subst hc;obtain⟨vs,rfl,hv⟩:=h;obtain⟨us,h1,h2⟩:=Zk4 hv;refine⟨us,h1,fun pl2 nx2 os ys more ho hy=>?_⟩;have:=h2 pl2 nx2 os ys more ho hy;have hl:=this.length;have hl2:=hv.length;have key:∀zs:List A,Ab (AR pl2 nx2) zs vs->VR pl2 nx2 (Fc zs) (.tuple vs.toArray):=by
   intro zs hz
   match zs,hz with
   | [],hz=>exact⟨vs,rfl,hz⟩
   | [z],hz =>
    exfalso;have hz1:=hz.length;simp only[Kf,Ki]at hz1
    match xs',hl2,hne with
    | [a],_,hne=>exact hne a rfl
    | [],hl2,_=>simp only[Ki]at hl2;omega
    | a::b::c,hl2,_=>simp only[Kf]at hl2;omega
   | a::b::c,hz=>exact⟨vs,rfl,hz⟩
  exact key _ this
 simp at hc
def RxB (R R':C->Value->Prop):List (M×D)->List C->List C->Prop
 | x::l,a::c0,b::ci=>(Ej x=true->∀v,R b v->R' a v)/\RxB R R' l c0 ci
 | [],[],[]=>True
 | _,_,_=>False
theorem RxB.split {R R':C->Value->Prop}:∀{l l':List (M×D)}{a a':List C}{ci:List C},a.length=l.length->RxB R R' (l++l') (a++a') ci->RxB R R' l a (ci.take l.length)/\RxB R R' l' a' (ci.drop l.length)
 | [],l',[],a',ci,_,h=>⟨trivial,h⟩
 | x::l,l',y::a,a',z::ci,hl,h=>by
  obtain⟨h1,h2⟩:=RxB.split (l:=l) (a:=a) (by simpa using hl) h.2;exact⟨⟨h.1,h1⟩,h2⟩
 | x::l,l',y::a,a',[],hl,h=>h.elim
 | [],_,_::_,_,_,hl,_=>by simp at hl
 | _::_,_,[],_,_,hl,_=>by simp at hl
theorem Zoa {R R':C->Value->Prop}:∀{l:List (M×D)}{c0 ci ys newc:List C}{bv:List Value},Ih l ci ys->Ab R ys bv->RxB R R' l c0 ci->Ab R' newc (D2 l bv)->Ab R' (Ia l c0 newc) bv
 | [],[],[],[],newc,[],_,_,_,_=>by simp [Ia,Ab]
 | x::l,a::c0,b::ci,y::ys,newc,v::bv,h1,h2,h3,h4=>by
  simp only[Ia];simp only[D2]at h4;cases hx:Ej x with
  | true =>
   rw[hx]at h4;simp only[if_true]at h4 ⊢;have e:=h1.1 hx;refine⟨h3.1 hx v (by rw[<-e];exact h2.1),Zoa h1.2 h2.2 h3.2 h4⟩
  | false =>
   rw[hx]at h4;simp only[Kka,if_false]at h4 ⊢
   match newc,h4 with
   | z::newc,h4=>exact⟨h4.1,Zoa h1.2 h2.2 h3.2 h4.2⟩
 | [],_::_,_,_,_,_,_,_,h3,_=>h3.elim
 | [],[],_::_,_,_,_,_,_,h3,_=>h3.elim
 | [],[],[],_::_,_,_,h1,_,_,_=>h1.elim
 | [],[],[],[],_,_::_,_,h2,_,_=>h2.elim
 | _::_,[],_,_,_,_,_,_,h3,_=>h3.elim
 | _::_,_::_,[],_,_,_,_,_,h3,_=>h3.elim
 | _::_,_::_,_::_,[],_,_,h1,_,_,_=>h1.elim
 | _::_,_::_,_::_,_::_,_,[],_,h2,_,_=>h2.elim
theorem Zy3 {α β:Type}{R:α->β->Prop}:∀{l:List (M×D)}{xs:List α}{ys:List β},Ab R xs ys->(D2 l xs).length=(D2 l ys).length
 | [],_,_,_=>by simp [D2]
 | _::_,[],[],_=>rfl
 | x::l,a::xs,b::ys,h=>by
  simp only[D2];cases Ej x<;>simp [Zy3 (l:=l) h.2]
 | _::_,[],_::_,h=>h.elim
 | _::_,_::_,[],h=>h.elim
theorem Zoz {R:C->Value->Prop}:∀{l:List (M×D)}{xs:List C}{ys:List Value},Ab R xs ys->Ab R (D2 l xs) (D2 l ys)
 | [],_,_,_=>by simp [D2,Ab]
 | _::_,[],[],_=>trivial
 | x::l,a::xs,b::ys,h=>by
  simp only[D2];cases Ej x
  ·exact⟨h.1,Zoz h.2⟩
  exact Zoz h.2
 | _::_,[],_::_,h=>h.elim
 | _::_,_::_,[],h=>h.elim
end Go.Vs
namespace Go.Vs
variable [Glb]
section
variable {w0:World} {own0:Nat->Nat->Prop} {pl0:Pls} {g1 g2:Lab} {pl1 pl2:Pls} {X Y:List (Nat×Root)} {nA n0 fix nC n1 F nF:Nat} {w w':World} {E:List (Nat×Ent)}
theorem Yao (hn:(Ids E).Nodup) (hfix:∀id q,id<F->pl2 id q=plE pl1 E id q) (hF:n0<=nF):∀(fl:List (M×C×D)) (us:List Value) (k:Kk),Ab (U7 pl1 X E) fl us->(∀x∈fl,∀r p s lo n,x.2.1=.rf r p s lo n->x.1=.rx->r<n0)->(∀x∈(Gw fl k).1,x∈E)->(Au (fl.map md) k).2.2.1<=F ->
  RxB (CR pl2 n1) (CR (plB pl1 pl2 n0 n1) nF) (fl.map md) (fl.map (·.2.1)) (Au (fl.map md) k).1
 | [],[],_,_,_,_,_=>trivial
 | [],_::_,_,hg,_,_,_=>hg.elim
 | _::_,[],_,hg,_,_,_=>hg.elim
 | (m,c,d)::fl,u::us,k,hg,hr,hE,hk=>by
  simp only[Ke,md,Au]at hk ⊢;have u2:=Ot (fl.map md) (inC m d k).2.2;simp only[Gw,Kca]at hE;refine⟨?_,Yao hn hfix hF fl us (inC m d k).2.2 hg.2 (fun x hx=>hr x (by simp [hx])) (fun x hx=>hE x (.inr (by rw[Qj];exact hx))) hk⟩;intro hrx v hv;cases d with
  | lf v'=>cases m<;>simp [Ej]at hrx
  | hole=>cases m<;>simp [Ej]at hrx
  | sl sz es =>
   cases m with
   | io=>simp [Ej]at hrx
   | ow=>simp [Ej]at hrx
   | rd=>simp [Ej]at hrx
   | rx =>
    simp only[inC]at hv hk;have hid:k.1<F:=by have:=(Ot (fl.map md) (k.1+1,k.2)).1;simp only at this;omega
    obtain⟨_,hw⟩:=hv;rw[hfix _ _ hid]at hw;rcases hg.1 with ⟨rfl,rfl,rfl⟩|⟨r,p,lo,n,rfl,hgw,hgg⟩
    ·have hE':=hE (k.1,.nil sz) (.inl (by simp [enC,Pm]));rw[show plE pl1 E k.1 []=⟨true,0,0,0,sz,none⟩ by unfold plE;rw[Hk hn hE']]at hw;obtain⟨_,_,_,A,rfl,hA⟩:=hw;show Value.slice A 0 (0-0)=_;rw[hA (.inr rfl)];rfl
    have hE':=hE (k.1,.read r p lo sz) (.inl (by simp [enC,Pm]));rw[show plE pl1 E k.1 []=⟨(pl1 r p).nil,(pl1 r p).b,(pl1 r p).off+lo*sz,(pl1 r p).cap-lo,sz,(pl1 r p).raw⟩ by unfold plE;rw[Hk hn hE']]at hw;have hlt:=hr (.rx,.rf r p sz lo n,.sl sz es) Kp r p sz lo n rfl rfl;refine⟨by omega, ?_⟩;rw[Lb hlt];rcases hgg with ⟨_,hlo,_,l,hl,hlm,rfl⟩|⟨hm,_⟩
    ·obtain⟨a1,a2,a3,_⟩:=hgw;obtain⟨_,_,_,A,rfl,hA⟩:=hw;have hlen:((l.drop lo).take n).length=n:=by
      have:lo+n<=l.length:=hlm;simp;omega
     rw[hlen];refine⟨a1,a2,a3,A,by simp,fun hh=>?_⟩;rw[hA (.inr rfl),a1];simp
    simp at hm
theorem Zei {Q:Nat->Root->Prop}{roots0:List (Nat×Root)}:∀(fl:List (M×C×D)) (k:Kk) (roots:List (Nat×Root)) (o:List (Nat×List (List D))) (r1:List (Nat×Root)),B2 roots fl o=some r1->(Bl fl).Nodup->(∀r∈Bl fl,get roots r=get roots0 r) ->
  (∀x∈(Gw fl k).1,x∈E)->Ab (fun (x:Nat×Nat×Nat) (o:Nat×List (List D))=>get Y x.1=some (.tr o.1 o.2)/\o.1=x.2.1/\o.2.length=x.2.2) (H8 (fl.map md) k.1) o->(Au (fl.map md) k).2.2.1<=F ->
  (∀(id r:Nat) (p:Af) (s lo n sz:Nat) (es:List (List D)),(M.io,C.rf r p s lo n,D.sl sz es)∈fl->(id,Ent.tree r p)∈E->id<F->∀es',get Y id=some (.tr sz es')->es'.length=es.length->∀sz0 es0,get roots0 r=some (.tr sz0 es0)->Q r (.tr sz0 (D0 es0 p fun _=>es'))) ->
  (∀r x,get roots r=some x->r ∉ Bl fl->Q r x)->(∀r x,get r1 r=some x->Q r x)/\(∀r,r ∉ Bl fl->get r1 r=get roots r)
 | [],k,roots,[],r1,hb,_,_,_,_,_,_,hq=>by
  simp only[B2,Ka]at hb;subst hb;exact⟨fun r x hx=>hq r x hx (by simp [Bl]),fun _ _=>rfl⟩
 | [],k,roots,_::_,r1,hb,_,_,_,_,_,_,_=>by simp [B2]at hb
 | (m,c,d)::fl,k,roots,o,r1,hb,hnd,h0,hE,ho,hk,hio,hq=>by
  have hk':(Au (fl.map md) (inC m d k).2.2).2.2.1<=F:=hk;have hup:=(Ot (fl.map md) (inC m d k).2.2).1;have hE':=hE;simp only[Gw,Kca]at hE';have skip:B2 roots ((m,c,d)::fl) o=B2 roots fl o->Bl ((m,c,d)::fl)=Bl fl->H8 (((m,c,d)::fl).map md) k.1=H8 (fl.map md) (inC m d k).2.2.1->(∀r x,get r1 r=some x->Q r x)/\(∀r,r ∉ Bl ((m,c,d)::fl)->get r1 r=get roots r):=by
   intro e1 e2 e3;rw[e1]at hb;rw[e2]at hnd h0 hq ⊢;rw[e3]at ho;exact Zei fl (inC m d k).2.2 roots o r1 hb hnd h0 (fun x hx=>hE' x (.inr (by rw[Qj];exact hx))) ho hk' (fun id r p s lo n sz es hm=>hio id r p s lo n sz es (by simp [hm])) hq
  cases m with
  | rd=>cases d<;>exact skip (by cases o<;>simp [B2]) rfl rfl
  | ow=>cases d<;>exact skip (by cases o<;>simp [B2]) rfl rfl
  | rx=>cases d<;>exact skip (by cases o<;>simp [B2]) rfl rfl
  | io =>
   cases d with
   | lf v=>exact skip (by cases o<;>cases c<;>simp [B2]) (by cases c<;>rfl) rfl
   | hole=>exact skip (by cases o<;>cases c<;>simp [B2]) (by cases c<;>rfl) rfl
   | sl sz es =>
    have e3:H8 (((M.io,c,D.sl sz es)::fl).map md) k.1=(k.1,sz,es.length)::H8 (fl.map md) (inC .io (.sl sz es) k).2.2.1:=rfl;rw[e3]at ho
    match o,ho with
    | (s',es')::o,ho =>
     obtain⟨⟨g1,g2,g3⟩,ho⟩:=ho;simp only at g1 g2 g3;subst g2;cases c with
     | nl s =>
      simp only[B2]at hb;simp only[Bl]at hnd h0 hq ⊢;exact Zei fl (inC .io (.sl s' es) k).2.2 roots o r1 hb hnd h0 (fun x hx=>hE' x (.inr (by rw[Qj];exact hx))) ho hk' (fun id r p s lo n sz es hm=>hio id r p s lo n sz es (by simp [hm])) hq
     | rf r p s lo n =>
      simp only[B2]at hb;simp only[Bl,Kta,Kh,not_or]at hnd h0 hq ⊢;split at hb
      ·rename_i sz0 es0 hr;have hq':Q r (.tr sz0 (D0 es0 p fun _=>es')):=by
        refine hio k.1 r p s lo n s' es (by simp) (hE' _ (.inl (by simp [enC,Rj]))) (by simp only[inC]at hup hk';omega) es' g1 g3 sz0 es0 ?_;rw[<-h0 r (.inl rfl)];exact hr
       obtain⟨a,b⟩:=Zei (Q:=Q) (roots0:=roots0) fl (inC .io (.sl s' es) k).2.2 _ o r1 hb hnd.2 (fun t ht=>by
        rw[Ax,if_neg (fun e=>hnd.1 (by rw[e];exact ht))];exact h0 t (.inr ht)) (fun x hx=>hE' x (.inr (by rw[Qj];exact hx))) ho hk' (fun id r p s lo n sz es hm=>hio id r p s lo n sz es (by simp [hm])) (fun t x hx ht=>by
         rw[Ax]at hx;split at hx
         ·rename_i e;subst e;simp only[Ka]at hx;subst hx;exact hq'
         ·rename_i e;exact hq t x hx ⟨fun e'=>e e'.symm,ht⟩)
       exact⟨a,fun t ht=>by rw[b t ht.2,Ax,if_neg (fun e=>ht.1 e.symm)]⟩
      simp at hb
     | lf v=>simp [B2]at hb
     | un=>simp [B2]at hb
     | pe r p i c=>simp [B2]at hb
     | pb r c=>simp [B2]at hb
theorem Zkc {R R':C->Value->Prop}{Q:Nat->Root->Prop}{roots0:List (Nat×Root)}:∀(vs:List V) (as:List Arg) (fl:List (M×C×D)) (ci:List C) (o:List (List D)) (ys:List C) (r1 r2:List (Nat×Root)) (bxs:List (List C)) (bvs:List (List Value)),
  Hi roots0 vs as=some fl->RxB R R' (flat as) (fl.map (·.2.1)) ci->Ab (fun x ys=>Ih x.1 x.2 ys) (inB as ci) bxs->Ab (Ab R) bxs bvs ->
  Ab R' ys (((inB as ci).zip bvs).flatMap fun x=>D2 x.1.1 x.2)->((inB as ci).zip bxs).map (fun x=>(D2 x.1.1 x.2).length)=o.map (·.length) ->
  He r1 vs as o ys=some r2->((Bf vs as).map (·.1)).Nodup->(∀x∈Bf vs as,get r1 x.1=get roots0 x.1) ->
  (∀(j:Nat) (x:Nat×Nat×Nat) (yj:List C) (bv:List Value) (zs:List C),(Bf vs as)[j]? = some x->bxs[j]? = some yj->bvs[j]? = some bv->Ab R' zs bv->yj.length=x.2.2->∀cs,get roots0 x.1=some (.bx cs)->Q x.1 (.bx (cs.take x.2.1++(zs++cs.drop (x.2.1+x.2.2))))) ->
  (∀r x,get r1 r=some x->r ∉ (Bf vs as).map (·.1)->Q r x)->∀r x,get r2 r=some x->Q r x
 | [],[],fl,ci,o,ys,r1,r2,bxs,bvs,_,_,_,_,_,_,hb,_,_,_,hq=>by
  have:r2=r1:=by simp only[He,Ka]at hb;exact hb.symm
  subst this;exact fun r x hx=>hq r x hx (by simp [Bf])
 | [],_::_,_,_,_,_,_,_,_,_,hf,_,_,_,_,_,_,_,_,_,_=>by simp [Hi]at hf
 | _::_,[],_,_,_,_,_,_,_,_,hf,_,_,_,_,_,_,_,_,_,_=>by simp [Hi]at hf
 | v::vs,.val ag l::as,fl,ci,o,ys,r1,r2,bxs,bvs,hf,hrx,hbx,hbv,hys,hlen,hb,hnd,h0,hio,hq=>by
  simp only[Hi]at hf;split at hf
  ·rename_i fa fb ha hb';simp only[Ka]at hf;subst hf;have hz:∃cs,Lk cs l=some fa:=by
    unfold Qp at ha;split at ha
    ·rename_i heq;cases heq;exact⟨_,ha⟩
    ·rename_i heq;cases heq;exact⟨_,ha⟩
    ·rename_i heq;cases heq
    simp at ha
   obtain⟨cs,hz⟩:=hz;obtain⟨e1,e2⟩:=Xw hz;have hh:Bf (v::vs) (.val ag l::as)=Bf vs as:=by
    simp only[Bf]
   rw[hh]at hnd h0 hio hq;have hb2:He r1 (v::vs) (.val ag l::as) o ys=He r1 vs as o ys:=by
    simp only[He]
   rw[hb2]at hb;rw[Kx,show flat (.val ag l::as)=l++flat as from rfl]at hrx;have:=(hrx.split (by rw[<-e2];simp)).2;exact Zkc vs as fb (ci.drop l.length) o ys r1 r2 bxs bvs hb' this hbx hbv hys hlen hb hnd h0 hio hq
  simp at hf
 | v::vs,.ptr l::as,fl,ci,o,ys,r1,r2,bxs,bvs,hf,hrx,hbx,hbv,hys,hlen,hb,hnd,h0,hio,hq=>by
  simp only[Hi]at hf;split at hf
  ·rename_i fa fb ha hb';simp only[Ka]at hf;subst hf;unfold Qp at ha;split at ha
   ·rename_i heq;cases heq
   ·rename_i heq;cases heq
   ·rename_i r c l' heq;cases heq;split at ha
    ·rename_i cs hr;split at ha
     ·rename_i hcl;obtain⟨e1,e2⟩:=Xw ha;simp only[inB]at hbx hys hlen
      match bxs,hbx with
      | yj::bxs,hbx =>
       match bvs,hbv with
       | bv::bvs,hbv =>
        simp only[Khc,Kxa,Ke]at hys hlen
        match o,hlen with
        | ds::o,hlen =>
         simp only[Ke,List.cons.injEq]at hlen;rw[Kx,show flat (.ptr l::as)=l++flat as from rfl]at hrx;obtain⟨hrx1,hrx2⟩:=hrx.split (by rw[<-e2];simp);rw[e1]at hrx1;have hbl:(D2 l bv).length=ds.length:=by rw[<-Zy3 hbv.1];exact hlen.1
         have t:=Ab.take ds.length hys;have dd:=Ab.drop ds.length hys;rw[Ked hbl]at t;rw[Kqc hbl]at dd;have hmix:=Zoa hbx.1 hbv.1 hrx1 t;simp only[Bf,Ke,Kta]at hnd h0 hio hq;have hr1:get r1 r=some (.bx cs):=by rw[h0 (r,c,l.length) (by simp)];exact hr
         simp only[He]at hb;rw[hr1]at hb;simp only at hb;have hyl:yj.length=l.length:=by
          have:∀(l:List (M×D)) (a b:List C),Ih l a b->b.length=l.length:=by
           intro l
           induction l with
           | nil=>intro a b h;cases a<;>cases b<;>first|rfl|exact h.elim
           | cons x l ih=>intro a b h;cases a<;>cases b<;>first|exact h.elim|(simp;exact ih _ _ h.2)
          exact this _ _ _ hbx.1
         have hQ:=hio 0 (r,c,l.length) yj bv _ rfl rfl rfl hmix hyl cs hr;refine Zkc vs as fb (ci.drop l.length) o _ _ r2 bxs bvs hb' hrx2 hbx.2 hbv.2 dd hlen.2 hb hnd.2 (fun x hx=>?_) (fun j x yj bv zs h1 h2 h3=>hio (j+1) x yj bv zs (by simpa using h1) (by simpa using h2) (by simpa using h3)) (fun t x hx ht=>?_)
         ·rw[Ax,if_neg (fun e=>hnd.1 (by rw[e];exact Kjf hx))];exact h0 x (by simp [hx])
         rw[Ax]at hx;split at hx
         ·rename_i e;subst e;simp only[Ka]at hx;subst hx;exact hQ
         rename_i e;exact hq t x hx (by simp only[Kh,not_or];exact⟨fun e'=>e e'.symm,ht⟩)
     simp at ha
    simp at ha
   simp at ha
  simp at hf
end
end Go.Vs
namespace Go.Vs
variable [Glb]
theorem N7:∀(fl:List (M×C×D)) (cs:List C) (roots:List (Nat×Root)) (o:List (Nat×List (List D))),B2 roots (Cm fl cs) o=B2 roots fl o
 | [],_,_,_=>rfl
 | (m,c,d)::l,cs,roots,o=>by
  cases m with
  | ow =>
   cases cs with
   | nil=>simp only[Cm];cases o<;>simp only[B2]<;>exact N7 l _ _ _
   | cons y cs=>simp only[Cm];cases o<;>simp only[B2]<;>exact N7 l _ _ _
  | rd=>rw[Ld (by simp)];cases o<;>simp only[B2]<;>exact N7 l _ _ _
  | rx=>rw[Ld (by simp)];cases o<;>simp only[B2]<;>exact N7 l _ _ _
  | io =>
   rw[Ld (by simp)];cases d with
   | lf v=>cases o<;>cases c<;>simp only[B2]<;>exact N7 l _ _ _
   | hole=>cases o<;>cases c<;>simp only[B2]<;>exact N7 l _ _ _
   | sl sz es =>
    cases o with
    | nil=>cases c<;>simp only[B2]
    | cons x o =>
     obtain⟨s,es'⟩:=x;cases c with
     | rf r p s' lo n=>simp only[B2];split<;>first|exact N7 l _ _ _|rfl
     | nl s'=>simp only[B2];exact N7 l _ _ _
     | lf v=>simp only[B2]
     | un=>simp only[B2]
     | pe r p i c=>simp only[B2]
     | pb r c=>simp only[B2]
theorem Qu:∀(fl:List (M×C×D)) (cs:List C),Bl (Cm fl cs)=Bl fl
 | [],_=>rfl
 | (m,c,d)::l,cs=>by
  cases m with
  | ow =>
   cases cs with
   | nil=>simp only[Cm,Bl];exact Qu l _
   | cons y cs=>simp only[Cm,Bl];exact Qu l _
  | rd=>rw[Ld (by simp)];simp only[Bl];exact Qu l _
  | rx=>rw[Ld (by simp)];simp only[Bl];exact Qu l _
  | io=>rw[Ld (by simp)];cases c<;>cases d<;>simp only[Bl,Qu l cs]
theorem Za8:∀{fl:List (M×C×D)}{cs:List C}{x:M×C×D},x∈Cm fl cs->x.1≠.ow->x∈fl
 | [],_,_,h,_=>by simp [Cm]at h
 | (m,c,d)::l,cs,x,h,hx=>by
  by_cases hm:m=.ow
  ·subst hm;cases cs with
   | nil =>
    simp only[Cm,Kh]at h;rcases h with rfl|h
    ·exact (hx rfl).elim
    exact Kj _ (Za8 h hx)
   | cons y cs =>
    simp only[Cm,Kh]at h;rcases h with rfl|h
    ·exact (hx rfl).elim
    exact Kj _ (Za8 h hx)
  rw[Ld hm]at h;rcases Kh.1 h with rfl|h
  ·simp
  exact Kj _ (Za8 h hx)
theorem Zht {R R':C->Value->Prop}:∀{fl:List (M×C×D)}{cs ci:List C},RxB R R' (fl.map md) ((Cm fl cs).map (·.2.1)) ci->RxB R R' (fl.map md) (fl.map (·.2.1)) ci
 | [],_,_,h=>h
 | (m,c,d)::l,cs,ci,h=>by
  by_cases hm:m=.ow
  ·subst hm;cases ci with
   | nil=>cases cs<;>exact h.elim
   | cons y ci =>
    cases cs with
    | nil=>exact⟨fun hx=>by simp [Ej,md]at hx,Zht h.2⟩
    | cons z cs=>exact⟨fun hx=>by simp [Ej,md]at hx,Zht h.2⟩
  rw[Ld hm]at h;cases ci with
  | nil=>exact h.elim
  | cons y ci=>exact⟨h.1,Zht h.2⟩
theorem Zvs:∀{xs:List A}{os:List (Bool×List D)},xs.map shA=os.map (fun x=>(x.1,x.2.length))->(xs.flatMap fun x=>(Dn x).2).length=(os.flatMap (·.2)).length
 | [],[],_=>rfl
 | [],_::_,h=>by simp at h
 | _::_,[],h=>by simp at h
 | x::xs,o::os,h=>by
  simp only[Ke,List.cons.injEq,shA,Kb]at h;simp only[Kxa,Kt];rw[h.1.2,Zvs h.2]
theorem RxB.mono {R R2 R':C->Value->Prop}(h:∀z v,R2 z v->R z v):∀{l:List (M×D)}{a b:List C},RxB R R' l a b->RxB R2 R' l a b
 | [],[],[],_=>trivial
 | _::_,_::_,_::_,k=>⟨fun hx v hv=>k.1 hx v (h _ _ hv),RxB.mono h k.2⟩
 | [],_::_,_,k=>k.elim
 | [],[],_::_,k=>k.elim
 | _::_,[],_,k=>k.elim
 | _::_,_::_,[],k=>k.elim
theorem Zuy:∀(bs:List (Nat×Nat×Nat)) (b j:Nat) (x:Nat×Nat×Nat),bs[j]? = some x->(b+j,Ent.box x.1 x.2.1 x.2.2)∈enB bs b
 | [],_,_,_,h=>by simp at h
 | (r,c,k)::l,b,0,x,h=>by simp at h;subst h;simp [enB]
 | (r,c,k)::l,b,j+1,x,h=>by
  have:=Zuy l (b+1) j x (by simpa using h);rw[show b+1+j=b+(j+1) by omega]at this;simp only[enB,Kh];exact .inr this
theorem Zy2 {R:C->Value->Prop}:∀{B:List (List (M×D)×List C)}{bxs:List (List C)}{bvs:List (List Value)},Ab (Ab R) bxs bvs->Ab R ((B.zip bxs).flatMap fun x=>D2 x.1.1 x.2) ((B.zip bvs).flatMap fun x=>D2 x.1.1 x.2)
 | [],_,_,_=>by simp [Ab]
 | _::_,[],[],_=>by simp [Ab]
 | b::B,x::bxs,y::bvs,h=>by
  simp only[Khc,Kxa];exact Ab.append (Zoz h.1) (Zy2 h.2)
 | _::_,[],_::_,h=>h.elim
 | _::_,_::_,[],h=>h.elim
theorem Zsn {w0:World}{own0:Nat->Nat->Prop}{pl0:Pls}{g:Lab}{pl:Pls}{roots:List (Nat×Root)}{nx fix:Nat}{w:World}(h:Hp w0 own0 pl0 g pl roots nx nx fix w):∀(bxs:List (List C)) (b:Nat),(∀(j:Nat) (ys:List C),bxs[j]? = some ys->get roots (b+j)=some (.bx ys)) ->
  ∃bvs:List (List Value),Ab (Ab (CR pl nx)) bxs bvs/\∀j bv,bvs[j]? = some bv->∀i u,bv[i]? = some u->w.cell? ⟨(pl (b+j) []).b,(pl (b+j) []).off+i,none⟩=some u
 | [],_,_=>⟨[],trivial,by simp⟩
 | ys::bxs,b,hb=>by
  obtain⟨bvs,h1,h2⟩:=Zsn h bxs (b+1) fun j ys hy=>by rw[show b+1+j=b+(j+1) by omega];exact hb (j+1) ys (by simpa using hy)
  have h0:=hb 0 ys rfl;obtain⟨bv,hl,hbv,hc⟩:=h.boxFrom (r:=b+0) (cs:=ys) (by unfold Zf;rw[h0]) ys 0 (fun k x hx=>by simpa using hx);refine⟨bv::bvs,⟨hc,h1⟩,fun j bv' hj i u hu=>?_⟩;cases j with
  | zero=>simp only[Kv,Ka]at hj;subst hj;have:=hbv i u hu;simpa using this
  | succ j=>have:=h2 j bv' (by simpa using hj) i u hu;rwa [show b+1+j=b+(j+1) by omega]at this
variable {w0:World} {own0:Nat->Nat->Prop} {pl0:Pls} {g:Lab} {pl:Pls} {fix:Nat} {w:World}
def Up (w0:World) (own0:Nat->Nat->Prop) (pl0:Pls) (pl:Pls) (S:St) (fix:Nat) (K:V->List (Nat×Af)->List (Nat×Root)->Nat->Prop) (e:Ending) (w':World):Prop :=
 ∃rv x ks roots nx g' pl',e=.returned rv/\VR pl' nx x rv/\Hp w0 own0 pl0 g' pl' roots nx nx fix w'/\(∀z u,CR pl S.next z u->CR pl' nx (A7 ks z) u)/\K x ks roots nx
theorem Zsw {C : List Value → World → (Ending → World → Prop) → Prop} (hm : ∀ ws w (R R' : Ending → World → Prop), (∀ e w', R e w' → R' e w') → C ws w R → C ws w R') {S : St} {vs : List V} {ws : List Value} {K : V → List (Nat × Af) → List (Nat × Root) → Nat → Prop} (hp : Hp w0 own0 pl0 g pl S.roots S.next S.next fix w) (hv : Ab (VR pl S.next) vs ws) (hc : Zkp C S vs K) :
    C ws w (Up w0 own0 pl0 pl S fix K) := by
  obtain ⟨as, out, hruns, fl, hf, rt, ht, hnd, hs, r1, hb1, r2, hb2, hK⟩ := hc;obtain ⟨g1, pl1, hen⟩ := enter hp hv hf ht hnd hs;refine hm _ _ _ _ ?_ (hruns w _ _ _ ws hen.inn hen.args);rintro e w' ⟨rv, gc, plc, rootsC, n1, res, rfl, hC0, hres, xs, hxs, hsh, bxs, hrd, hbx, rtC, htk, hbl, hio⟩;obtain ⟨us, hres1, hres2⟩ := Zz4 hxs hres;obtain ⟨bvs, hbv1, hbv2⟩ := Zsn hC0 bxs _ hbx;have hvals := Ab.append hres1 (Zy2 (B := inB as (Ca as).1) hbv1);obtain ⟨g2, pl2, hC, hag2, hnew, hlt2⟩ := Zbx _ _ _ _ _ _ _ _ hC0 hvals htk
  -- names
  have hF1 : B3 as ≤ n1 := hC0.fixle;have hle0 := Hs (out.res.flatMap (·.2) ++ out.bx.flatten) S.next;have hle1 := Hs (out.res.flatMap (·.2) ++ out.bx.flatten) n1;have hsh' := Zyi (out.res.flatMap (·.2) ++ out.bx.flatten) S.next n1;have hnF : ∀ id, n1 ≤ id → id < (Ap (out.res.flatMap (·.2) ++ out.bx.flatten) n1).2.2 → id - n1 + S.next < (Ap (out.res.flatMap (·.2) ++ out.bx.flatten) S.next).2.2 := by intro id h1 h2; omega
  have hlim := Hs (owD fl) S.next;have hX : ∀ t, t < S.next → get ((Ap (owD fl) S.next).2.1 ++ rt) t = get rt t := by
    intro t ht;rw [Ea, Z2 (fun x hx => by have := (hlim.2 x hx).1; omega)]
  have hY : ∀ t, t < n1 → get ((Ap (out.res.flatMap (·.2) ++ out.bx.flatten) n1).2.1 ++ rtC) t = get rtC t := by
    intro t ht;rw [Ea, Z2 (fun x hx => by have := (hle1.2 x hx).1; omega)]
  have hcr := Zar (pl1 := pl1) (pl2 := pl2) (n0 := S.next) (n1 := n1) hnF _ _ 0 hnew;simp only [Kga] at hcr;have hmdO : (Cm fl (Ap (owD fl) S.next).1).map md = flat as := by rw [Za7]; exact hen.md
  have hk1 : (Au (flat as) (0, B3 as)).2.2.1 = C8 (flat as) := by rw [Znd]; simp
  have hFF : B3 as = C8 (flat as) + I4 as := rfl;obtain ⟨us0, hus0, hgood⟩ := hen.good
  -- what 'rx' cells hold
  have hrx := Yao (nF := (Ap (out.res.flatMap (·.2) ++ out.bx.flatten) S.next).2.2) (n0 := S.next) (n1 := n1) (F := B3 as) hen.ids (fun id q h => hC.fixed id q h) hle0.1 (Cm fl (Ap (owD fl) S.next).1) us0 (0, B3 as) hgood (by
      intro x hx r p s lo n hxc hxm;have hxf := Za8 hx (by rw [hxm]; simp);obtain ⟨i, hi⟩ := Klc hxf;obtain ⟨u, _, hu⟩ := hus0.get i x.2.1 (by rw [Kba, hi]; rfl);rw [hxc] at hu;exact hu.1) (fun x hx => Kca.2 (.inl hx)) (by rw [hmdO, hk1, hFF]; omega)
  rw [hmdO] at hrx;have hrx' := Zht (fl := fl) (by rw [hen.md]; exact hrx);rw [hen.md] at hrx';have hbxlt : ∀ (j : Nat) (x : Nat × Nat × Nat), (Bf vs as)[j]? = some x → C8 (flat as) + j < B3 as := by
    intro j x hj;have := (Kfa.1 hj).1;have := hen.blen;omega
  have hmem : ∀ r, r ∈ A9 (Eh fl S.next (Bf vs as) as) → r < S.next → r ∈ Bl fl ∨ r ∈ (Bf vs as).map (·.1) := by
    intro r hr hlt;unfold Eh at hr;rw [Zmo, Zmq, Zmp, Kca] at hr;rcases hr with hr | hr
    · rcases K2 hr with k | k
      · exact .inl k
      omega
    exact .inr hr
  rw [Kdd] at hnd
  -- the slices that were written
  obtain ⟨hq1, hq2⟩ := Zei (E := Eh fl S.next (Bf vs as) as) (Y := rtC) (F := B3 as) (roots0 := rt)
    (Q := fun r x => r ∉ (Bf vs as).map (·.1) → r < (Ap (out.res.flatMap (·.2) ++ out.bx.flatten) S.next).2.2 ∧ Dj (Fj w0 own0) w' (Ge g1 (Eh fl S.next (Bf vs as) as) S.next n1 g2) (plB pl1 pl2 S.next n1) (Ap (out.res.flatMap (·.2) ++ out.bx.flatten) S.next).2.2 r x)
    (Cm fl (Ap (owD fl) S.next).1) (0, B3 as) rt out.io r1 (by rw [N7]; exact hb1) (by rw [Qu]; exact hnd.1) (fun _ _ => rfl) (fun x hx => Kca.2 (.inl hx)) (by rw [hmdO]; exact hio) (by rw [hmdO, hk1, hFF]; omega)
    (by
      intro id r p s lo n sz es hm hE hid es' hes' hl sz0 es0 hr _;obtain ⟨rfl, rfl, rfl, sz1, es1, h1, h2⟩ := hs _ (Za8 hm (by simp));rw [hr] at h1;simp only [Ka, Root.tr.injEq] at h1;obtain ⟨rfl, rfl⟩ := h1;have hlt := hen.rtlt r _ hr;exact ⟨by omega, Yex hen.hp hC hen.ids hen.hand hF1 hE hid hlt (by rw [hX r hlt]; exact hr) h2 (by rw [hY id (by omega)]; exact hes') hl _⟩)
    (by
      intro r x hr hni hnb;rw [Qu] at hni;have hlt := hen.rtlt r _ hr;exact ⟨by omega, Zke hen.hp hC hle0.1 hlt (fun h => (hmem r h hlt).elim hni hnb) (by rw [hX r hlt]; exact hr)⟩)
  -- the variables
  have hul : us.length = (out.res.flatMap (·.2)).length := by rw [← hres1.length]; exact Zvs hsh
  have hdrop := Ab.drop (out.res.flatMap (·.2)).length hcr;rw [Kqc hul] at hdrop;have hQ := Zkc (R := CR plc n1) (R' := CR (plB pl1 pl2 S.next n1) (Ap (out.res.flatMap (·.2) ++ out.bx.flatten) S.next).2.2) (roots0 := S.roots)
    (Q := fun r x => r < (Ap (out.res.flatMap (·.2) ++ out.bx.flatten) S.next).2.2 ∧ Dj (Fj w0 own0) w' (Ge g1 (Eh fl S.next (Bf vs as) as) S.next n1 g2) (plB pl1 pl2 S.next n1) (Ap (out.res.flatMap (·.2) ++ out.bx.flatten) S.next).2.2 r x)
    vs as fl (Ca as).1 out.bx _ r1 r2 bxs bvs hf ?_ hrd hbv1 hdrop hbl hb2 hnd.2.1 ?_ ?_ ?_
  · refine ⟨rv, _, [], _, _, _, _, rfl, hres2 _ _ out.res _ _ hsh hcr, Zkd hen.hp hC hle0.1 hnF hp.fixle (R := (Ap (out.res.flatMap (·.2) ++ out.bx.flatten) S.next).2.1 ++ r2) ?_, ?_, hK⟩
    · intro r x hx
      rw [Ea] at hx;split at hx
      · rename_i y hy
        simp only [Ka] at hx; subst hx;obtain ⟨h1, h2, sz, es, rfl⟩ := Zas _ S.next n1 r y hy;have h3 := ((hle0.2 _ (Na hy))).2;refine ⟨h3, ?_⟩;have := Zsi (n0 := S.next) (n1 := n1) (nF := (Ap (out.res.flatMap (·.2) ++ out.bx.flatten) S.next).2.2) (g1 := g1) (pl1 := pl1) hC (id := r - S.next + n1) (by omega) (by rw [Ea, h2]) (Fj w0 own0)
        rwa [show r - S.next + n1 - n1 + S.next = r by omega] at this
      exact hQ r x hx
    intro z u hz;exact Ve hle0.1 (hz.agree hen.agree)
  · -- R: places over there
    refine RxB.mono ?_ hrx';intro z v hz;exact hz.agree hag2
  · intro x hx
    obtain ⟨_, cs, h1, h2, _⟩ := hen.bxs x hx;rw [hq2 _ (by rw [Qu]; exact fun k => hnd.2.2 _ k _ (Kjf hx) rfl), h1, h2]
  · intro j x yj bv zs hj hyj hbv hzs hyl cs hcs
    obtain ⟨hlt, cs', h1, h2, hcl⟩ := hen.bxs x (Kaa hj);rw [h2] at hcs;simp only [Ka, Root.bx.injEq] at hcs; subst hcs;have hid := hbxlt j x hj;have hE : (C8 (flat as) + j, Ent.box x.1 x.2.1 x.2.2) ∈ Eh fl S.next (Bf vs as) as := Kca.2 (.inr (Zuy _ _ _ _ hj));have hbl2 : bv.length = yj.length := by
      obtain ⟨b', hb', hall⟩ := hbv1.get j yj hyj;rw [hbv] at hb'; simp only [Ka] at hb'; subst hb';exact hall.length.symm
    refine ⟨by omega, Yew hen.hp hC hle0.1 hen.ids hen.hand hF1 hE hid hlt (by rw [hX _ hlt]; exact h1) hcl (by rw [hY _ (by omega)]; exact Zij htk _ _ (hbx j yj hyj)) hyl (by rw [hzs.length, hbl2, hyl]) ?_ _⟩;intro i y z v hy hz hcell _;obtain ⟨u, hu, hcu⟩ := hzs.get i z hz;have hc := hbv2 j bv hbv i u hu;rw [hC0.fixed _ [] hid] at hc;rw [show plE pl1 (Eh fl S.next (Bf vs as) as) (C8 (flat as) + j) [] = ⟨false, (pl1 x.1 []).b, (pl1 x.1 []).off + x.2.1, 0, 1, none⟩ by unfold plE; rw [Hk hen.ids hE]] at hc;simp only [Kgb] at hc;rw [hc] at hcell;simp only [Ka] at hcell; subst hcell;exact hcu
  intro r x hr hnb;exact hq1 r x hr hnb
theorem Yfe {P:Program}{S:St}{f:FuncId}{vs:List V}{ws:List Value}{K:V->List (Nat×Af)->List (Nat×Root)->Nat->Prop}(hp:Hp w0 own0 pl0 g pl S.roots S.next S.next fix w) (hv:Ab (VR pl S.next) vs ws) (hc:Zko P S f vs K) :
  Calls P f ws.toArray w (Up w0 own0 pl0 pl S fix K) :=
 Zsw (C:=fun vs w R=>Calls P f vs.toArray w R) (fun _ _ _ _ h k=>Calls.mono k h) hp hv hc
theorem Zr6 {α β:Type}{R:α->β->Prop}:∀{as bs:List α}{ws:List β},Ab R (as++bs) ws->∃w1 w2,ws=w1++w2/\Ab R as w1/\Ab R bs w2
 | [],bs,ws,h=>⟨[],ws,rfl,trivial,h⟩
 | a::as,bs,[],h=>h.elim
 | a::as,bs,w::ws,h=>by
  obtain⟨w1,w2,rfl,h1,h2⟩:=Zr6 h.2;exact⟨w::w1,w2,rfl,⟨h.1,h1⟩,h2⟩
theorem Zr9 {pl:Pls}{nx:Nat}:∀{caps:List A}{vs:List Value},Ab (AR pl nx) caps vs->Ab (VR pl nx) (caps.map V.a) vs
 | [],[],_=>trivial
 | _::_,_::_,h=>⟨h.1,Zr9 h.2⟩
 | [],_::_,h=>h.elim
 | _::_,[],h=>h.elim
theorem Yoy {P:Program}{S:St}{f:FuncId}{vs:List V}{ws:List Value}{K:V->List (Nat×Af)->List (Nat×Root)->Nat->Prop}(hp:Hp w0 own0 pl0 g pl S.roots S.next S.next fix w) (hv:Ab (VR pl S.next) vs ws) (hc:Zsv P S f vs K) :
  Calls P f ws.toArray w (Up w0 own0 pl0 pl S fix K):=by
 obtain⟨us,q,caps,rfl,hc⟩:=hc;obtain⟨w1,w2,rfl,h1,h2⟩:=Zr6 hv
 match w2,h2 with
 | [wf],h2 =>
  obtain⟨cvs,rfl,hcv⟩:=h2.1;have hl:=h1.length;have key:=Zsw (C:=fun ws w R=>Calls P f (Im us.length q ws).toArray w R) (fun _ _ _ _ h k=>Calls.mono k h) hp (Ab.append h1 (Zr9 hcv)) hc;have e:Im us.length q (w1++cvs)=w1++[.func (.func q) #[] cvs.toArray]:=by
   unfold Im;rw[hl,List.take_left,Kge]
  simp only[e]at key;exact key
end Go.Vs
namespace Go.Vs
variable [Glb]
inductive Lies (W:World):D->Value->Prop where
 | lf (v:Value) (h:v.oneCell'=true):Lies W (.lf v) v
 | hole (v:Value) (h:v.oneCell'=true):Lies W .hole v
 | nil (sz:Nat) (A:Option Addr):Lies W (.sl sz []) (.slice A 0 0)
 | sl (sz:Nat) (es:List (List D)) (b off cap:Nat) (vals:Nat->Nat->Value) (hle:es.length<=cap) (hsz:∀e∈es,e.length=sz)
   (hc:∀(i c:Nat) (e:List D) (d:D),es[i]? = some e->e[c]? = some d->W.cell? ⟨b,off+(i*sz+c),none⟩=some (vals i c))
   (hd:∀(i c:Nat) (e:List D) (d:D),es[i]? = some e->e[c]? = some d->Lies W d (vals i c)):Lies W (.sl sz es) (.slice (some ⟨b,off,none⟩) es.length cap)
def Zjh (W:World) (sz:Nat) (es:List (List D)) (v:Value) (L:Af->Pl):Prop :=
 (L []).sz=sz/\v=hdr (L []) es.length/\∀p n,Am sz es p=some n->NodeC W (fun _ q=>L q) 0 p n.1 n.2/\Zr4 (Fj W fun _ _=>False) (fun _ q=>L q) 0 p n.2.length
theorem Lies.placed {W:World}{d:D}{v:Value}(h:Lies W d v):∀sz es,d=.sl sz es->∃L,Zjh W sz es v L:=by
 induction h with
 | lf v h=>intro sz es e;cases e
 | hole v h=>intro sz es e;cases e
 | nil sz A =>
  intro sz' es e;cases e;refine⟨fun _=>⟨true,0,0,0,sz,A⟩,rfl,rfl, ?_⟩;intro p n hp;cases p with
  | nil =>
   simp only[Am,Ka]at hp;subst hp;exact⟨⟨rfl,Kc _,fun _=>rfl,by simp,by simp⟩,fun j hj=>by simp at hj⟩
  | cons a p=>obtain⟨i,c⟩:=a;simp [Am]at hp
 | sl sz es b off cap vals hle hsz hc hd ih =>
  intro sz' es' e;cases e;have H:∀i c:Nat,∃L:Af->Pl,∀(e:List D) (s:Nat) (l:List (List D)),es[i]? = some e->e[c]? = some (.sl s l)->Zjh W s l (vals i c) L:=by
   intro i c;by_cases hx:∃e s l,es[i]? = some e/\e[c]? = some (D.sl s l)
   ·obtain⟨e,s,l,h1,h2⟩:=hx;obtain⟨L,hL⟩:=ih i c e _ h1 h2 s l rfl;refine⟨L,fun e' s' l' h1' h2'=>?_⟩;rw[h1]at h1';simp only[Ka]at h1';subst h1';rw[h2]at h2';simp only[Ka,D.sl.injEq]at h2';obtain⟨rfl,rfl⟩:=h2';exact hL
   exact⟨fun _=>default,fun e s l h1 h2=>(hx ⟨e,s,l,h1,h2⟩).elim⟩
  let Lc:=fun i c=>Classical.choose (H i c)
  have hLc:∀i c e s l,es[i]? = some e->e[c]? = some (D.sl s l)->Zjh W s l (vals i c) (Lc i c):=fun i c=>Classical.choose_spec (H i c)
  let L:Af->Pl:=fun q=>match q with
   | []=>⟨false,b,off,cap,sz,none⟩
   | (i,c)::q=>Lc i c q
  refine⟨L,rfl,rfl, ?_⟩;intro p n hp;cases p with
  | nil =>
   simp only[Am,Ka]at hp;subst hp;refine⟨⟨rfl,hle,(fun h=>by cases h),hsz, ?_⟩, ?_⟩
   ·intro i e c d he hdd;refine⟨vals i c,hc i c e d he hdd, ?_⟩;cases d with
    | lf u =>
     have:=hd i c e _ he hdd;generalize hv:vals i c=x at this;cases this with
     | lf _ h1=>exact⟨rfl,h1⟩
    | hole =>
     have:=hd i c e _ he hdd;generalize hv:vals i c=x at this;cases this with
     | hole _ h1=>exact h1
    | sl s l =>
     obtain⟨a1,a2,_⟩:=hLc i c e s l he hdd;exact⟨a1,a2⟩
   intro j hj;have hszp:0<sz:=by
    rcases Kgf sz with h0|h0
    ·subst h0;simp [L]at hj
    exact h0
   have hj':j<es.length*sz:=hj;have hi:j / sz<es.length:=Khe (by rw[Kgc];exact hj');have hdm:j / sz*sz+j%sz=j:=by rw[Kgc];exact Kie _ _
   have he:=Ku hi;have hel:=hsz _ (Kaa he);have hdd:=Ku (show j%sz<(es[j / sz]).length by rw[hel];exact Kmc _ hszp);have:=hc _ _ _ _ he hdd;rw[hdm]at this;exact⟨World.block_lt_of_cell? _ _ this,fun h=>h⟩
  | cons a q =>
   obtain⟨i,c⟩:=a;simp only[Am]at hp;split at hp
   ·rename_i s l hb;simp only[Kg]at hb;obtain⟨e,he,hdd⟩:=hb;obtain⟨_,_,a3⟩:=hLc i c e s l he hdd;obtain⟨b1,b2⟩:=a3 q n hp;exact⟨⟨b1.szp,b1.le,b1.nil,b1.szs,b1.cells⟩,b2⟩
   simp at hp
theorem Zgd:∀{l:List D}{k:Kk}{y:Nat×Root},y∈(Au (l.map fun d=>(M.rd,d)) k).2.1->∃s e,y.2=.im s e
 | [],_,_,h=>by simp [Au]at h
 | .lf v::l,k,y,h=>Zgd (l:=l) (k:=k) h
 | .hole::l,k,y,h=>Zgd (l:=l) (k:=k) h
 | .sl s e::l,k,y,h=>by
  simp only[Ke,Au,inC,Kn,Km,Kh]at h;rcases h with rfl|h
  ·exact⟨s,e,rfl⟩
  exact Zgd (l:=l) h
def Yr2:C->Prop
 | .pe _ _ _ _=>False
 | .pb _ _=>False
 | _=>True
theorem Zag:∀{l:List D}{k:Kk}{x:C},x∈(Au (l.map fun d=>(M.rd,d)) k).1->Yr2 x
 | [],_,_,h=>by simp [Au]at h
 | .lf v::l,k,y,h=>by
  simp only[Ke,Au,inC,Kh]at h;rcases h with rfl|h
  ·trivial
  exact Zag (l:=l) h
 | .hole::l,k,y,h=>by
  simp only[Ke,Au,inC,Kh]at h;rcases h with rfl|h
  ·trivial
  exact Zag (l:=l) h
 | .sl s e::l,k,y,h=>by
  simp only[Ke,Au,inC,Kh]at h;rcases h with rfl|h
  ·trivial
  exact Zag (l:=l) h
theorem Zan {W:World}{N:Nat}{g:Lab}:∀(l:List D) (vs:List Value) (k:Kk),Ab (Lies W) l vs->(Au (l.map fun d=>(M.rd,d)) k).2.2.2<=N->∃pl:Pls,Ab (CR pl N) (Au (l.map fun d=>(M.rd,d)) k).1 vs /\
  (∀y∈(Au (l.map fun d=>(M.rd,d)) k).2.1,k.2<=y.1/\y.1<N/\Dj (Fj W fun _ _=>False) W g pl N y.1 y.2)/\(∀x∈(Au (l.map fun d=>(M.rd,d)) k).1,∀r p s lo n,x=C.rf r p s lo n->k.2<=r)
 | [],[],_,_,_=>⟨fun _ _=>default,trivial,by simp [Au],by simp [Au]⟩
 | [],_::_,_,h,_=>h.elim
 | _::_,[],_,h,_=>h.elim
 | d::l,v::vs,k,h,hN=>by
  cases d with
  | lf u =>
   obtain⟨pl,h1,h2,h3⟩:=Zan (N:=N) (g:=g) l vs k h.2 hN;have hv:=h.1;refine⟨pl,⟨?_,h1⟩,h2, ?_⟩
   ·cases hv with
    | lf _ ho=>exact⟨rfl,ho⟩
   intro x hx r p s lo n e;simp only[Ke,Au,inC,Kh]at hx;rcases hx with rfl|hx
   ·cases e
   exact h3 x hx r p s lo n e
  | hole =>
   obtain⟨pl,h1,h2,h3⟩:=Zan (N:=N) (g:=g) l vs k h.2 hN;have hv:=h.1;refine⟨pl,⟨?_,h1⟩,h2, ?_⟩
   ·cases hv with
    | hole _ ho=>exact ho
   intro x hx r p s lo n e;simp only[Ke,Au,inC,Kh]at hx;rcases hx with rfl|hx
   ·cases e
   exact h3 x hx r p s lo n e
  | sl sz es =>
   simp only[Ke,Au,inC]at hN ⊢;obtain⟨pl,h1,h2,h3⟩:=Zan (N:=N) (g:=g) l vs (k.1,k.2+1) h.2 hN;obtain⟨L,l1,l2,l3⟩:=h.1.placed sz es rfl;have hk:k.2<N:=by have:=(Ot (l.map fun d=>(M.rd,d)) (k.1,k.2+1)).2;simp only at this;omega
   let pl':Pls:=fun r q=>if r=k.2 then L q else pl r q
   have hp:∀q,pl' k.2 q=L q:=fun q=>by simp [pl']
   have hne:∀r q,r≠k.2->pl' r q=pl r q:=fun r q h=>by simp [pl',h]
   have hnode0:=l3 [] _ rfl;refine⟨pl',⟨⟨hk, ?_⟩, ?_⟩, ?_, ?_⟩
   ·rw[hp];refine⟨l1,hnode0.1.nil,by rw[Kr];exact hnode0.1.le,(L []).base,by rw[l2];rfl,fun _=>?_⟩;simp [Pl.base]
   ·refine Ab.of_get h1.length ?_;intro i x u hx hu;obtain⟨u',hu',hc⟩:=h1.get i x hx;rw[hu]at hu';simp only[Ka]at hu';subst hu';cases x with
    | rf r p s lo n =>
     have hr:=h3 _ (Kaa hx) r p s lo n rfl;simp only at hr;refine⟨hc.1, ?_⟩;rw[hne r p (by omega)];exact hc.2
    | un=>exact hc
    | nl s=>exact hc
    | lf w=>exact hc
    | pe r p i c=>exact (Zag (Kaa hx)).elim
    | pb r c=>exact (Zag (Kaa hx)).elim
   ·intro y hy;rcases Kh.1 hy with rfl|hy
    ·refine⟨Kc _,hk, ?_⟩;intro p n hn;obtain⟨a,b⟩:=l3 p n hn;refine⟨⟨by rw[hp];exact a.szp,by rw[hp];exact a.le,by rw[hp];exact a.nil,a.szs, ?_⟩, ?_⟩
     ·intro i e c d he hd;rw[hp,hp];exact a.cells i e c d he hd
     intro j hj;rw[hp]at hj ⊢;exact b j hj
    obtain⟨b1,b2,b3⟩:=h2 y hy;simp only at b1;refine⟨by omega,b2, ?_⟩;have hroot:=Zgd hy;obtain⟨s,e,he⟩:=hroot;rw[he]at b3 ⊢;intro p n hn;obtain⟨a,b⟩:=b3 p n hn;have hy1:y.1≠k.2:=by omega
    refine⟨⟨by rw[hne _ _ hy1];exact a.szp,by rw[hne _ _ hy1];exact a.le,by rw[hne _ _ hy1];exact a.nil,a.szs, ?_⟩, ?_⟩
    ·intro i e c d he hd;rw[hne _ _ hy1,hne _ _ hy1];exact a.cells i e c d he hd
    intro j hj;rw[hne _ _ hy1]at hj ⊢;exact b j hj
   intro x hx r p s lo n e;rcases Kh.1 hx with rfl|hx
   ·cases e;exact Kc _
   have:=h3 x hx r p s lo n e;simp only at this;omega
end Go.Vs
namespace Go.Vs
variable [Glb]
def Cb (x:Bool×List D):Arg:=.val x.1 (x.2.map fun d=>(M.rd,d))
def J0 (W:World) (x:Bool×List D) (v:Value):Prop :=
 if x.1 then ∃us:List Value,v=.agg us.toArray/\Ab (Lies W) x.2 us else ∃d,x.2=[d]/\Lies W d v
theorem S4:∀av:List (Bool×List D),flat (av.map Cb)=(av.flatMap (·.2)).map fun d=>(M.rd,d)
 | []=>rfl
 | x::av=>by
  have:=S4 av;simp only[flat]at this ⊢;simp only[Ke,Kxa,Kx,this];rfl
theorem Vy:∀l:List D,C8 (l.map fun d=>(M.rd,d))=0
 | []=>rfl
 | .lf v::l=>by simp only[Ke,C8,Qn,Vy l]
 | .hole::l=>by simp only[Ke,C8,Qn,Vy l]
 | .sl s e::l=>by simp only[Ke,C8,Qn,Vy l]
theorem Zgr:∀av:List (Bool×List D),I4 (av.map Cb)=0
 | []=>rfl
 | x::av=>Zgr av
theorem Wc:∀(av:List (Bool×List D)) (cs:List C),inB (av.map Cb) cs=[]
 | [],_=>rfl
 | x::av,cs=>Wc av _
theorem Zsf {W:World}{pl:Pls}{N:Nat}:∀(av:List (Bool×List D)) (vs:List Value),Ab (J0 W) av vs->∃us:List Value,Ab (Lies W) (av.flatMap (·.2)) us /\
  ∀(pl:Pls) (N:Nat) (cs:List C) (b:Nat),Ab (CR pl N) cs us->Ab (VR pl N) (inV (av.map Cb) cs b) vs
 | [],[],_=>⟨[],trivial,fun _ _ _ _ _=>trivial⟩
 | [],_::_,h=>h.elim
 | _::_,[],h=>h.elim
 | (ag,l)::av,v::vs,h=>by
  obtain⟨us,h1,h2⟩:=Zsf (W:=W) (pl:=pl) (N:=N) av vs h.2;have h0:=h.1;unfold J0 at h0;cases ag with
  | true =>
   simp only[if_true]at h0;obtain⟨u0,rfl,hu⟩:=h0;refine⟨u0++us,Ab.append hu h1,fun pl N cs b hc=>?_⟩;have hl:u0.length=(l.map fun d=>(M.rd,d)).length:=by rw[Ko,hu.length]
   have t:=Ab.take (l.map fun d=>(M.rd,d)).length hc;have dd:=Ab.drop (l.map fun d=>(M.rd,d)).length hc;rw[Ked hl]at t;rw[Kqc hl]at dd;exact⟨⟨u0,rfl,t⟩,h2 pl N _ b dd⟩
  | false =>
   simp only[Kka,if_false]at h0;obtain⟨d,rfl,hd⟩:=h0;refine⟨v::us,⟨hd,h1⟩,fun pl N cs b hc=>?_⟩
   match cs,hc with
   | c::cs,hc=>exact⟨hc.1,h2 pl N cs b hc.2⟩
theorem Zsx {P:Program}{f:FuncId}{av:List (Bool×List D)}{out:Out}(h:Ir P f (av.map Cb) out){W:World}{vs:Array Value}(hgl:∀b o v,F0 b o=some v->b<W.heap.size/\W.cell? ⟨b,o,none⟩=some v) (hv:Ab (J0 W) av vs.toList) :
  Calls P f vs W fun e W'=>RowKit.Below W.heap.size W W'/\∃rv g' pl pl' roots nx res,e=.returned rv/\Hp W (fun _ _=>False) pl g' pl' roots nx nx (B3 (av.map Cb)) W'/\VR pl' nx res rv/\Hz (av.map Cb) out roots res:=by
 obtain⟨us,h1,h2⟩:=Zsf (pl:=fun _ _=>default) (N:=0) av vs.toList hv;have hfix:B3 (av.map Cb)=0:=by unfold B3;rw[S4,Vy,Zgr]
 have hcell:Ca (av.map Cb)=Au ((av.flatMap (·.2)).map fun d=>(M.rd,d)) (0,0):=by unfold Ca;rw[S4,hfix]
 obtain⟨pl,c1,c2,_⟩:=Zan (W:=W) (N:=(Bm (av.map Cb)).2.2) (g:=fun _ _=>none) _ us (0,0) h1 (by show _<=(Ca (av.map Cb)).2.2.2;rw[hcell];exact Kc _);have hroots:(Bm (av.map Cb)).2.1=(Ca (av.map Cb)).2.1:=by
  show (Ca (av.map Cb)).2.1++I7 (inB (av.map Cb) (Ca (av.map Cb)).1) _=_;rw[Wc];simp [I7]
 have hp:Hp W (fun _ _=>False) pl (fun _ _=>none) pl (Bm (av.map Cb)).2.1 (Bm (av.map Cb)).2.2 (Bm (av.map Cb)).2.2 (B3 (av.map Cb)) W:=by
  refine⟨Fr.refl _ _ (fun b o v h=>⟨(hgl b o v h).1,fun k=>k,(hgl b o v h).2⟩),(fun b o x hx=>by cases hx),(fun _ _ _=>rfl),by rw[hfix];exact Kda _,Kc _, ?_⟩;intro r x hx;rw[hroots,hcell]at hx;have:=c2 _ (Na hx);exact⟨this.2.1,this.2.2⟩
 have hargs:Ab (VR pl (Bm (av.map Cb)).2.2) (Bm (av.map Cb)).1 vs.toList:=by
  refine h2 pl _ (Ca (av.map Cb)).1 _ ?_;rw[hcell];exact c1
 have:=h W (fun _ _=>False) _ pl vs.toList hp hargs;rw[show vs.toList.toArray=vs from rfl]at this;refine this.mono ?_;rintro e w' ⟨rv,g',pl',roots,nx,res,he,hp',hrv,hl⟩;exact⟨⟨hp'.fr.os,hp'.fr.tape,hp'.fr.output,hp'.fr.size,fun b hb=>hp'.fr.block b hb fun _ h=>h⟩,rv,g',pl,pl',roots,nx,res,he,hp',hrv,hl⟩
theorem Yq9 {asl:List Arg}{v:Value}{roots:List (Nat×Root)}{res:V}(h:Hz asl ⟨[(false,[.lf v])],[],[]⟩ roots res) (hB:inB asl (Ca asl).1=[]):res=.a (.c (.lf v)):=by
 obtain⟨xs,hx,hs,bxs,hb,_,rt,ht,_⟩:=h;rw[hB]at ht;simp only[List.zip_nil_left,Kke,Kw,Klf,Kxa]at ht
 match xs,hs with
 | [x],hs =>
  simp only[Ke,Ktb,List.cons.injEq,and_true,Kb,Kf,Ki]at hs;cases x with
  | ag cs=>simp [Dn]at hs
  | c c =>
   simp only[Dn,Kxa,Kke,Kw,Cx]at ht;split at ht
   ·rename_i d r1 h1;simp only[Ka,Kb,List.cons.injEq,and_true]at ht;obtain⟨rfl,rfl⟩:=ht;have hc:c=.lf v:=by
     unfold Dh at h1;split at h1
     ·simp only[Ka,Kb,D.lf.injEq]at h1;rw[h1.1]
     ·simp at h1
     ·split at h1
      ·split at h1
       ·split at h1<;>simp at h1
       simp at h1
      simp at h1
     simp at h1
    subst hc;cases res with
    | a y=>simp only[J8,Ka,List.cons.injEq,and_true]at hx;rw[hx]
    | un=>simp [J8]at hx
    | fn f cs=>simp [J8]at hx
    | sb r n=>simp [J8]at hx
    | tp ys =>
     match ys,hx with
     | [],hx=>simp [J8]at hx
     | [_],hx=>simp [J8]at hx
     | _::_::_,hx=>simp [J8]at hx
   simp at ht
 | [],hs=>simp at hs
 | _::_::_,hs=>simp at hs
theorem Yqw {P:Program}{f:FuncId}{av:List (Bool×List D)}{r:Value}(h:Ir P f (av.map Cb) ⟨[(false,[.lf r])],[],[]⟩){W:World}{vs:Array Value}(hgl:∀b o v,F0 b o=some v->b<W.heap.size/\W.cell? ⟨b,o,none⟩=some v) (hv:Ab (J0 W) av vs.toList) :
  Calls P f vs W fun e W'=>e=.returned r/\RowKit.Below W.heap.size W W':=by
 refine (Zsx h hgl hv).mono ?_;rintro e W' ⟨hb,rv,g',pl,pl',roots,nx,res,rfl,hp,hr,hl⟩;have:=Yq9 hl (Wc av _);subst this;exact⟨by rw[hr.1],hb⟩
end Go.Vs
namespace Go.Vs
variable [Glb]
def Hu (roots:List (Nat×Root)):C->D->Prop
 | c,.lf v=>c=.lf v
 | .nl s,.sl sz es=>s=sz/\es=[]
 | .rf r p s lo n,.sl sz es=>s=sz/\(lo=0\/0<n)/\∃l,Dr roots r p=some (sz,l)/\lo+n<=l.length/\es=(l.drop lo).take n
 | _,_=>False
def W8 (roots:List (Nat×Root)):V->Bool×List D->Prop
 | .a (.c x),(false,[d])=>Hu roots x d
 | .a (.ag cs),(true,ds)=>Ab (Hu roots) cs ds
 | .sb r n,(false,[.sl 1 es])=>∃cs,get roots r=some (.bx cs)/\cs.length=n/\n=es.length/\Ab (fun c e=>∃d,e=[d]/\Hu roots c d) cs es
 | _,_=>False
def Zkq (P:Program) (S:St) (f:FuncId) (vs:List V) (K:V->List (Nat×Af)->List (Nat×Root)->Nat->Prop):Prop :=
 ∃av res,Ir P f (av.map Cb) ⟨res,[],[]⟩/\Ab (W8 S.roots) vs av /\
  K (Fc (Gh res (Ap (res.flatMap (·.2)) S.next).1)) [] ((Ap (res.flatMap (·.2)) S.next).2.1++S.roots) (Ap (res.flatMap (·.2)) S.next).2.2
section
variable {w0:World} {own0:Nat->Nat->Prop} {pl0:Pls} {g:Lab} {pl:Pls} {roots:List (Nat×Root)} {nx fix:Nat} {w:World}
theorem Hp.node_lies (h:Hp w0 own0 pl0 g pl roots nx nx fix w):∀(n:Nat) (r:Nat) (p:Af) (sz:Nat) (l:List (List D)) (lo k:Nat) (v:Value),SizeOf.sizeOf ((l.drop lo).take k)<=n->Dr roots r p=some (sz,l)->lo+k<=l.length->(lo=0\/0<k)->Win (pl r p) sz lo k v->Lies w (.sl sz ((l.drop lo).take k)) v
 | 0,r,p,sz,l,lo,k,v,hn,_,_,_,_=>by
  exfalso;cases hq:(l.drop lo).take k with
  | nil=>rw[hq]at hn;simp at hn
  | cons a b=>rw[hq]at hn;simp at hn
 | n+1,r,p,sz,l,lo,k,v,hn,hnode,hle,hlo,hw=>by
  obtain⟨hr,hc⟩:=h.node hnode;obtain⟨hsz,hnil,hcap,A,rfl,hA⟩:=hw;simp only at hc;have hlen:((l.drop lo).take k).length=k:=by simp;omega
  cases hq:(pl r p).nil with
  | true =>
   have hc0:=hnil hq;have hk0:k=0:=by omega
   have hlo0:lo=0:=by omega
   subst hk0 hlo0;rw[hc0];simp only[Kza];exact .nil sz A
  | false =>
   by_cases hk:0<k
   ·have hA':=hA (.inl (by omega));rw[hq]at hA';simp only[Kka,if_false]at hA';subst hA';have cell:∀(i c:Nat) (e:List D) (d:D),((l.drop lo).take k)[i]? = some e->e[c]? = some d->∃u,w.cell? ⟨(pl r p).b,(pl r p).off+lo*(pl r p).sz+(i*sz+c),none⟩=some u/\DV (pl r (p++[(lo+i,c)])) d u/\l[lo+i]? = some e:=by
     intro i c e d he hd;rw[Kwa]at he;split at he
     ·rw[Kdb]at he;obtain⟨u,h1,h2⟩:=hc.cells (lo+i) e c d he hd;refine⟨u, ?_,h2,he⟩;rw[<-h1,hsz];congr 2;rw[Kbb];omega
     simp at he
    have key:=Lies.sl (W:=w) sz ((l.drop lo).take k) (pl r p).b ((pl r p).off+lo*(pl r p).sz) ((pl r p).cap-lo) (fun i c=>(w.cell? ⟨(pl r p).b,(pl r p).off+lo*(pl r p).sz+(i*sz+c),none⟩).getD undef) (by rw[hlen];omega) (fun e he=>hc.szs e (Kkb (Kjb he))) ?_ ?_
    ·rw[hlen]at key;exact key
    ·intro i c e d he hd;obtain⟨u,h1,_⟩:=cell i c e d he hd;rw[h1];rfl
    intro i c e d he hd;obtain⟨u,h1,h2,h3⟩:=cell i c e d he hd;rw[h1];simp only[Kub];cases d with
    | lf x=>rw[h2.1];exact .lf x h2.2
    | hole=>exact .hole u h2
    | sl s es' =>
     have hs:=Zyo hnode (lo+i) c;simp only[h3,Kra,hd]at hs;obtain⟨_,hc2⟩:=h.node hs;have hsize:SizeOf.sizeOf es'<SizeOf.sizeOf ((l.drop lo).take k):=by
      have m1:D.sl s es'∈e:=Kaa hd;have m2:e∈(l.drop lo).take k:=Kaa he;have s1:=List.sizeOf_lt_of_mem m1;have s2:=List.sizeOf_lt_of_mem m2;simp only[D.sl.sizeOf_spec]at s1;omega
     have e0:(es'.drop 0).take es'.length=es':=by simp
     have:=h.node_lies n r (p++[(lo+i,c)]) s es' 0 es'.length u (by rw[e0];omega) hs (by omega) (.inl rfl) (by
      refine⟨h2.1,hc2.nil,by simpa using hc2.le,_, ?_,fun _=>rfl⟩;rw[h2.2];simp [hdr,Pl.base])
     rwa [e0]at this
   have hk0:k=0:=by omega
   have hlo0:lo=0:=by omega
   subst hk0 hlo0;have hA':=hA (.inr rfl);rw[hq]at hA';simp only[Kka,if_false]at hA';subst hA';simp only[Kza];exact Lies.sl (W:=w) sz [] (pl r p).b ((pl r p).off+0*(pl r p).sz) ((pl r p).cap-0) (fun _ _=>undef) (Kda _) (by simp) (by simp) (by simp)
theorem Hp.sees_lies (h:Hp w0 own0 pl0 g pl roots nx nx fix w){c:C}{d:D}{v:Value}(hs:Hu roots c d) (hv:CR pl nx c v):Lies w d v:=by
 cases d with
 | lf x =>
  cases c<;>simp only[Hu]at hs<;>try (cases hs)
  rw[hv.1];exact .lf _ hv.2
 | hole=>cases c<;>simp [Hu]at hs
 | sl sz es =>
  cases c with
  | nl s =>
   obtain⟨rfl,rfl⟩:=hs;rw[show v=.slice none 0 0 from hv];exact .nil _ none
  | rf r p s lo n =>
   obtain⟨rfl,hlo,l,h1,h2,rfl⟩:=hs;exact h.node_lies _ r p s l lo n v (Kc _) h1 h2 hlo hv.2
  | un=>simp [Hu]at hs
  | lf x=>simp [Hu]at hs
  | pe r p i c=>simp [Hu]at hs
  | pb r c=>simp [Hu]at hs
theorem Hp.seesA_lies (h:Hp w0 own0 pl0 g pl roots nx nx fix w):∀{cs:List C}{ds:List D}{us:List Value},Ab (Hu roots) cs ds->Ab (CR pl nx) cs us->Ab (Lies w) ds us
 | [],[],[],_,_=>trivial
 | c::cs,d::ds,u::us,hs,hv=>⟨h.sees_lies hs.1 hv.1,h.seesA_lies hs.2 hv.2⟩
 | [],[],_::_,_,hv=>hv.elim
 | [],_::_,_,hs,_=>hs.elim
 | _::_,[],_,hs,_=>hs.elim
 | _::_,_::_,[],_,hv=>hv.elim
theorem Hp.seesV_lies (h:Hp w0 own0 pl0 g pl roots nx nx fix w){x:V}{y:Bool×List D}{v:Value}(hs:W8 roots x y) (hv:VR pl nx x v):J0 w y v:=by
 unfold W8 at hs;split at hs
 ·exact⟨_,rfl,h.sees_lies hs hv⟩
 ·obtain⟨us,rfl,hu⟩:=hv;exact⟨us,rfl,h.seesA_lies hs hu⟩
 ·rename_i r n es;obtain⟨cs,hr,hl,hn,hall⟩:=hs;obtain⟨hrn,rfl⟩:=hv;have hb:=(h.roots r _ hr).2;refine⟨_,rfl, ?_⟩;have hce:cs.length=es.length:=by omega
  have one:∀(i c:Nat) (e:List D) (d:D),es[i]? = some e->e[c]? = some d->c=0/\∃x u,cs[i]? = some x/\Hu roots x d/\w.cell? ⟨(pl r []).b,(pl r []).off+i,none⟩=some u/\CR pl nx x u:=by
   intro i c e d he hd;have hi:i<cs.length:=by rw[hce];exact (Kfa.1 he).1
   have hci:=Ku hi;obtain⟨e',he',d',rfl,hsee⟩:=hall.get i _ hci;rw[he]at he';simp only[Ka]at he';subst he';have hc0:c=0:=by
    cases c with
    | zero=>rfl
    | succ c=>simp at hd
   subst hc0;simp only[Kv,Ka]at hd;subst hd;obtain⟨u,h1,h2,_⟩:=hb i _ hci;exact⟨rfl,_,u,hci,hsee,h1,h2⟩
  have key:=Lies.sl (W:=w) 1 es (pl r []).b (pl r []).off n (fun i c=>(w.cell? ⟨(pl r []).b,(pl r []).off+(i*1+c),none⟩).getD undef) (by omega) ?_ ?_ ?_
  ·rw[<-hn]at key;exact key
  ·intro e he;obtain⟨i,hi⟩:=Klc he;have hi':i<cs.length:=by rw[hce];exact (Kfa.1 hi).1
   obtain⟨e',he',d',rfl,_⟩:=hall.get i _ (Ku hi');rw[hi]at he';simp only[Ka]at he';rw[he'];rfl
  ·intro i c e d he hd;obtain⟨rfl,x,u,_,_,h1,_⟩:=one i c e d he hd;rw[Khd,Kga,h1];rfl
  intro i c e d he hd;obtain⟨rfl,x,u,_,h3,h1,h2⟩:=one i c e d he hd;rw[Khd,Kga,h1];exact h.sees_lies h3 h2
 exact hs.elim
theorem Hp.seesVs_lies (h:Hp w0 own0 pl0 g pl roots nx nx fix w):∀{vs:List V}{av:List (Bool×List D)}{us:List Value},Ab (W8 roots) vs av->Ab (VR pl nx) vs us->Ab (J0 w) av us
 | [],[],[],_,_=>trivial
 | c::cs,d::ds,u::us,hs,hv=>⟨h.seesV_lies hs.1 hv.1,h.seesVs_lies hs.2 hv.2⟩
 | [],[],_::_,_,hv=>hv.elim
 | [],_::_,_,hs,_=>hs.elim
 | _::_,[],_,hs,_=>hs.elim
 | _::_,_::_,[],_,hv=>hv.elim
theorem Zy5 (g:Lab):Dy g []=fun _ _=>False:=by
 funext b o;simp only[Dy,F1,eq_iff_iff,iff_false];cases g b o<;>simp [B0]
theorem Yu2 {P:Program}{S:St}{f:FuncId}{vs:List V}{ws:List Value}{K:V->List (Nat×Af)->List (Nat×Root)->Nat->Prop}(hp:Hp w0 own0 pl0 g pl S.roots S.next S.next fix w) (hv:Ab (VR pl S.next) vs ws) (hc:Zkq P S f vs K) :
  Calls P f ws.toArray w (Up w0 own0 pl0 pl S fix K):=by
 obtain⟨av,res,hruns,hs,hK⟩:=hc;refine Calls.mono (Zsx hruns (W:=w) (vs:=ws.toArray) (fun b o v h=>⟨Kz (hp.fr.gl b o v h).1 hp.fr.size,hp.fr.glb h⟩) (hp.seesVs_lies hs hv)) ?_;rintro e w' ⟨_,rv,gc,plx,plc,rootsC,n1,resV',rfl,hC0,hres,xs,hxs,hsh,bxs,hrd,hbx,rtC,htk,hbl,hio⟩;rw[Wc]at htk;simp only[List.zip_nil_left,Kke,Kw,Klf]at htk;obtain⟨us,hres1,hres2⟩:=Zz4 hxs hres;obtain⟨g2,pl2,hC1,hag2,hnew,hlt2⟩:=Zbx _ _ _ _ _ _ _ _ hC0 hres1 htk;have hfix0:B3 (av.map Cb)=0:=by unfold B3;rw[S4,Vy,Zgr]
 have hC:Hp w (Dy g []) (plE pl []) g2 pl2 ((Ap (res.flatMap (·.2)) n1).2.1++rtC) (Ap (res.flatMap (·.2)) n1).2.2 n1 0 w':=by
  rw[Zy5];rw[hfix0]at hC1;exact⟨hC1.fr,hC1.lab,(fun r p h=>absurd h (Kle _)),Kda _,hC1.ncle,hC1.roots⟩
 have hle0:=Hs (res.flatMap (·.2)) S.next;have hle1:=Hs (res.flatMap (·.2)) n1;have hsh':=Zyi (res.flatMap (·.2)) S.next n1;have hnF:∀id,n1<=id->id<(Ap (res.flatMap (·.2)) n1).2.2->id-n1+S.next<(Ap (res.flatMap (·.2)) S.next).2.2:=by intro id h1 h2;omega
 have hcr:=Zar (pl1:=pl) (pl2:=pl2) (n0:=S.next) (n1:=n1) hnF _ _ 0 hnew;simp only[Kga]at hcr;refine⟨rv,_,[],_,_,_,_,rfl,hres2 _ _ res _ [] hsh (by rw[Kw];exact hcr),Zkd (E:=[]) hp hC hle0.1 hnF hp.fixle (R:=(Ap (res.flatMap (·.2)) S.next).2.1++S.roots) ?_, ?_,hK⟩
 ·intro r x hx;rw[Ea]at hx;split at hx
  ·rename_i y hy;simp only[Ka]at hx;subst hx;obtain⟨h1,h2,sz,es,rfl⟩:=Zas _ S.next n1 r y hy;have h3:=((hle0.2 _ (Na hy))).2;refine⟨h3, ?_⟩;have:=Zsi (E:=[]) (n0:=S.next) (n1:=n1) (nF:=(Ap (res.flatMap (·.2)) S.next).2.2) (g1:=g) (pl1:=pl) hC (id:=r-S.next+n1) (by omega) (by rw[Ea,h2]) (Fj w0 own0)
   rwa [show r-S.next+n1-n1+S.next=r by omega]at this
  have hr:=(hp.roots r x hx).1;exact⟨Kz hr hle0.1,Zke (E:=[]) hp hC hle0.1 hr (by simp [A9]) hx⟩
 intro z u hz;exact Ve hle0.1 hz
def Zdn (P:Program) (f:FuncId) (d:D) (tl:List Value):Prop :=
 ∀(W:World) (v:Value),(∀b o v,F0 b o=some v->b<W.heap.size/\W.cell? ⟨b,o,none⟩=some v)->J0 W (false,[d]) v ->
  Calls P f #[v] W fun e W'=>∃g2 pl2 r0,Hp W (fun _ _=>False) pl2 g2 pl2 [(r0,.bx (.un::tl.map .lf))] (r0+1) r0 0 W'/\e=.returned (.pointer (some ⟨(pl2 r0 []).b,(pl2 r0 []).off,none⟩))/\W'.cell? ⟨(pl2 r0 []).b,(pl2 r0 []).off,none⟩=some v
def Zss (P:Program) (S:St) (f:FuncId) (vs:List V) (K:V->List (Nat×Af)->List (Nat×Root)->Nat->Prop):Prop :=
 ∃c d tl,vs=[.a (.c c)]/\Zdn P f d tl/\Hu S.roots c d/\K (.a (.c (.pb S.next 0))) [] ((S.next,.bx (c::tl.map .lf))::S.roots) (S.next+1)
theorem Yf2 {P:Program}{S:St}{f:FuncId}{vs:List V}{ws:List Value}{K:V->List (Nat×Af)->List (Nat×Root)->Nat->Prop}(hp:Hp w0 own0 pl0 g pl S.roots S.next S.next fix w) (hv:Ab (VR pl S.next) vs ws) (hc:Zss P S f vs K) :
  Calls P f ws.toArray w (Up w0 own0 pl0 pl S fix K):=by
 obtain⟨c,d,tl,rfl,hm,hs,hK⟩:=hc
 match ws,hv with
 | [v],hv =>
 have hcv:CR pl S.next c v:=hv.1;refine Calls.mono (hm w v (fun b o v h=>⟨Kz (hp.fr.gl b o v h).1 hp.fr.size,hp.fr.glb h⟩) ⟨d,rfl,hp.sees_lies hs hcv⟩) ?_;rintro e w' ⟨g2,pl2,r0,hC0,rfl,hcell⟩;have hC:Hp w (Dy g []) (plE pl []) g2 pl2 [(r0,.bx (.un::tl.map .lf))] (r0+1) r0 0 w':=by
  rw[Zy5];exact⟨hC0.fr,hC0.lab,(fun r p h=>absurd h (Kle _)),Kda _,hC0.ncle,hC0.roots⟩
 have hpl:plB pl pl2 S.next r0 S.next []=pl2 r0 []:=by
  have:=Za1 (pl1:=pl) (pl2:=pl2) (n0:=S.next) (n1:=r0) (id:=r0) (Kc _) []
  rwa [show r0-r0+S.next=S.next by omega]at this
 refine⟨_,.a (.c (.pb S.next 0)),[],_,_,_,_,rfl,⟨Kqa _, ?_⟩,Zkd (E:=[]) (nC:=r0+1) hp hC (nF:=S.next+1) (by omega) (fun id h1 h2=>by omega) hp.fixle (R:=(S.next,.bx (c::tl.map .lf))::S.roots) ?_, ?_,hK⟩
 ·rw[hpl];simp
 ·intro r x hx;simp only[get]at hx;split at hx
  ·rename_i h;simp only[Ka]at hx;subst hx;subst h;refine⟨Kqa _, ?_⟩;intro j y hy;have hb:=(hC.roots r0 (.bx (.un::tl.map .lf)) (by simp [get])).2;have lab:∀b o q,g2 b o=some (r0,q)->Ge g [] S.next r0 g2 b o=some (S.next,q):=by
    intro b o q h;unfold Ge Vf;rw[h];simp
   rw[hpl];cases j with
   | zero =>
    simp only[Kv,Ka]at hy;subst hy;obtain⟨u,h1,_,h3,h4⟩:=hb 0 .un rfl;exact⟨v,by simpa using hcell,Ve (by omega) hcv,lab _ _ _ h3,h4⟩
   | succ j =>
    simp only[Kpa]at hy;obtain⟨u,h1,h2,h3,h4⟩:=hb (j+1) y (by simpa using hy);refine⟨u,h1, ?_,lab _ _ _ h3,h4⟩;simp only[Kba,Ks]at hy;obtain⟨z,_,rfl⟩:=hy;exact h2
  have hr:=(hp.roots r x hx).1;exact⟨Kpb hr,Zke (E:=[]) hp hC (by omega) hr (by simp [A9]) hx⟩
 intro z u hz;exact Ve (by omega) hz
def Zh (P:Program) (S:St) (f:FuncId) (vs:List V) (K:V->List (Nat×Af)->List (Nat×Root)->Nat->Prop):Prop :=
 Zko P S f vs K\/Zkq P S f vs K\/Zsv P S f vs K\/Zss P S f vs K
theorem Zsd {P:Program}{S:St}{f:FuncId}{vs:List V}{ws:List Value}{K:V->List (Nat×Af)->List (Nat×Root)->Nat->Prop}(hp:Hp w0 own0 pl0 g pl S.roots S.next S.next fix w) (hv:Ab (VR pl S.next) vs ws) (hc:Zh P S f vs K) :
  Calls P f ws.toArray w (Up w0 own0 pl0 pl S fix K):=by
 rcases hc with h|h|h|h
 ·exact Yfe hp hv h
 ·exact Yu2 hp hv h
 ·exact Yoy hp hv h
 exact Yf2 hp hv h
def Zd (P:Program) (f:FuncId):Bool:=match P.funcs[f]? with
 | some fn => fn.body.isSome && fn.name != "runtime.NumGoroutine"
 | none=>false
end
end Go.Vs
