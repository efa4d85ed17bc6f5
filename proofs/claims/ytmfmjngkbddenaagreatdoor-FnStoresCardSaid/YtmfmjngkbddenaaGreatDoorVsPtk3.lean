import Derived.Test.YtmfmjngkbddenaaGreatDoorProg
import Derived.Test.YtmfmjngkbddenaaGreatDoorVsPtk2
set_option linter.all false
namespace Go.Vs
open Go.Proofs
set_option maxRecDepth 100000
noncomputable section
def Yac:List GI:=[⟨(some 3),.rd (.mv (.t 0)),none⟩,
 ⟨(some 4),.rd (.nilc (.t 3)),none⟩,
 ⟨(some 5),.rd (.fad 3 (.t 4)),none⟩,
 ⟨(some 6),.rd (.load none (.t 5)),none⟩,
 ⟨(some 7),.rd (.mv (.t 6)),none⟩,
 ⟨(some 8),.rd (.mv (.t 0)),(some (7,false))⟩,
 ⟨(some 9),.wr (.call 183 [(.t 8)]),(some (7,false))⟩,
 ⟨(some 10),.rd (.un .not (.t 9)),(some (7,false))⟩,
 ⟨(some 11),.rd (.pick (.t 7) (.k (.a (.c (.lf (.bool true))))) (.t 10)),none⟩]
def Yad:List GI:=[⟨(some 2),.rd (.mv (.k (.a (.c (.lf (.int .i64 0)))))),none⟩]
def Yae:List GI:=[⟨(some 12),.rd (.mv (.t 2)),none⟩,
 ⟨(some 13),.rd (.mv (.t 0)),none⟩,
 ⟨(some 14),.rd (.nilc (.t 13)),none⟩,
 ⟨(some 15),.rd (.fad 1 (.t 14)),none⟩,
 ⟨(some 16),.rd (.load none (.t 15)),none⟩,
 ⟨(some 17),.rd (.len (.t 16)),none⟩,
 ⟨(some 18),.rd (.bin .lss (.t 12) (.t 17)),none⟩]
def Yag:List DI:=[⟨⟨(some 21),.rd (.mv (.t 0)),none⟩,[],false,0,0⟩,
 ⟨⟨(some 22),.rd (.nilc (.t 21)),none⟩,[0],false,0,0⟩,
 ⟨⟨(some 23),.rd (.fad 0 (.t 22)),none⟩,[1,0],false,0,0⟩,
 ⟨⟨(some 24),.rd (.load none (.t 23)),none⟩,[2,1,0],false,0,0⟩,
 ⟨⟨(some 25),.rd (.mv (.t 0)),none⟩,[],false,0,0⟩,
 ⟨⟨(some 26),.rd (.nilc (.t 25)),none⟩,[4],false,0,0⟩,
 ⟨⟨(some 27),.rd (.fad 1 (.t 26)),none⟩,[5,4],false,0,0⟩,
 ⟨⟨(some 28),.rd (.load none (.t 27)),none⟩,[6,5,4],false,0,0⟩,
 ⟨⟨(some 29),.rd (.mv (.t 2)),none⟩,[],false,0,0⟩,
 ⟨⟨(some 30),.rd (.iad 2 (.t 28) (.t 29)),none⟩,[7,8,6,5,4],false,0,0⟩,
 ⟨⟨(some 31),.rd (.fad 0 (.t 30)),none⟩,[9,7,8,6,5,4],false,0,0⟩,
 ⟨⟨(some 32),.rd (.load none (.t 31)),none⟩,[10,9,7,8,6,5,4],false,0,0⟩,
 ⟨⟨(some 33),.rd (.mv (.t 0)),none⟩,[],false,0,0⟩,
 ⟨⟨(some 34),.rd (.nilc (.t 33)),none⟩,[12],false,0,0⟩,
 ⟨⟨(some 35),.rd (.fad 1 (.t 34)),none⟩,[13,12],false,0,0⟩,
 ⟨⟨(some 36),.rd (.load none (.t 35)),none⟩,[14,13,12],false,0,0⟩,
 ⟨⟨(some 37),.rd (.mv (.t 2)),none⟩,[],false,0,0⟩,
 ⟨⟨(some 38),.rd (.iad 2 (.t 36) (.t 37)),none⟩,[15,16,14,13,12],false,0,0⟩,
 ⟨⟨(some 39),.rd (.fad 1 (.t 38)),none⟩,[17,15,16,14,13,12],false,0,0⟩,
 ⟨⟨(some 40),.rd (.load none (.t 39)),none⟩,[18,17,15,16,14,13,12],false,0,0⟩,
 ⟨⟨(some 41),.rd (.iad 1 (.t 24) (.t 32)),none⟩,[3,11,19,2,1,0,10,9,7,8,6,5,4,18,17,15,16,14,13,12],false,0,0⟩,
 ⟨⟨none,.wr (.store 1 (.t 41) (.t 40)),none⟩,[20,3,11,19,2,1,0,10,9,7,8,6,5,4,18,17,15,16,14,13,12],true,0,0⟩]
def Yaf:List GI:=[⟨(some 19),.rd (.mv (.t 2)),none⟩,
 ⟨(some 20),.rd (.bin .add (.t 19) (.k (.a (.c (.lf (.int .i64 1)))))),none⟩,
 ⟨(some 2),.rd (.mv (.t 20)),none⟩]
def Yah:List GI:=[⟨(some 42),.rd (.mv (.t 0)),none⟩,
 ⟨(some 43),.wr (.lit 2 0 [.lf (.int .i64 0),.nl 1] []),none⟩,
 ⟨(some 44),.rd (.nilc (.t 42)),none⟩,
 ⟨(some 45),.rd (.fad 1 (.t 44)),none⟩,
 ⟨none,.wr (.store 1 (.t 45) (.t 43)),none⟩]
def Yab:Stm:=(.seq (.seq (.reg Yac) (.cond (.t 11) .ret .skip)) (.seq (.seq (.reg Yad) (.block 0 (.loop (.seq (.seq (.reg Yae) (.cond (.t 18) .skip (.exit 0))) (.seq (.block 1 (.drw Yag)) (.reg Yaf)))))) (.reg Yah)))
theorem Ywh:(Tryz.f124.body.bind (trC Tryz.prog Tryz.f124.ntmps))=some Yab:=by kernel_rfl
section
set_option maxHeartbeats 1000000
set_option maxRecDepth 4000
theorem Yse (secs:List (List UInt8)) (cache:List Wr) (fuse:Int) (down:Bool) (hf:-1<=fuse/\fuse<=1000):Io Tryz.prog 183 [.ptr [(.rx,.sl 1 (sD secs)),(.rx,.sl 2 (wD cache)),(.rd,.lf (.int .i64 fuse)),(.rd,.lf (.bool down))]] ⟨[(false,[.lf (.bool (opR fuse))])],[],[[.lf (.int .i64 (opF fuse)),.lf (.bool (opD fuse down))]]⟩ :=
 Zt7.ok (secs,(cache,(fuse,down))) (opR fuse,(opF fuse,opD fuse down)) (by
  show Ut (secs,(cache,(fuse,down)))=_;unfold Ut opR opF opD;simp only;by_cases h0:fuse=0
  ·subst h0;rfl
  have hb:(fuse==0)=false:=by simp [h0]
  rw[show iEq fuse 0=false from by simp [iEq,h0],show ∀x y:Option (Bool×(Int×Bool)),cnd false x y=y from fun _ _=>rfl];by_cases h1:0<fuse
  ·have e:A9 .i64 fuse 1=fuse-1:=Zq8 (by omega) (by omega);rw[show iGt fuse 0=true from by simp [iGt,h1],show ∀x y:Option (Bool×(Int×Bool)),cnd true x y=x from fun _ _=>rfl,e];simp [hb,h0,h1];rfl
  ·rw[show iGt fuse 0=false from by simp [iGt];omega,show ∀x y:Option (Bool×(Int×Bool)),cnd false x y=y from fun _ _=>rfl];simp [hb,h0,h1];rfl)
theorem Ys3 (secs:List (List UInt8)) (cache:List Wr) (fuse:Int) (down:Bool) (hf:-1<=fuse/\fuse<=1000) (hl:secs.length<2^40) (hm:cache.length<2^40) (hd:∀w∈cache,0<=w.1/\w.1<=(secs.length:Int)-1):Io Tryz.prog 124 [.ptr [(.ow,.sl 1 (sD secs)),(.ow,.sl 2 (wD cache)),(.rd,.lf (.int .i64 fuse)),(.rd,.lf (.bool down))]] ⟨[],[],[[.sl 1 (sD (flC secs cache fuse down).1),.sl 2 (wD (flC secs cache fuse down).2.1),.lf (.int .i64 (flC secs cache fuse down).2.2.1),.lf (.bool (flC secs cache fuse down).2.2.2)]]⟩:=by
 obtain⟨c,hb,hs⟩:=Y2 Ywh;refine Zpc Tryz.func124 hb hs rfl (show 1<=46 by decide) ?_;clear hb hs c;simp only[Bl,B8,flat,Kxa,Kje,Arg.cells,Kn,Kl,Av,inC,B2,C5,Qj,I1,inV,inB,I5,Kf,Ki,Khb,Kza,Klb,Kja,Ir,Kr,Kga,Kw,Nat.reduceAdd,F7,Yw7];unfold Yab;refine Ph ?_;refine Ph ?_;refine Zbl ?_;unfold Yac;refine C6 (Jl rfl) ?_
 first|refine C6 (Vh rfl) ?_|refine C6 (Vi rfl) ?_
 first|refine C6 (Qg rfl) ?_|refine C6 (Qh rfl) ?_
 try simp only[Kza,Khb,Kja,Klb,Kl,Kn,Kw,Kf,Ki,Kr,Kga,Nat.reduceAdd,Nat.reduceMul,toC,Ck,Gb,F7,rep,Kv,Koa]
 first|refine C6 (Sk rfl rfl rfl) ?_|refine C6 (Oe rfl rfl (rfl) rfl) ?_|refine C6 (Og rfl rfl (rfl) rfl) ?_
 try simp only[Kza,Khb,Kja,Klb,Kl,Kn,Kw,Kf,Ki,Kr,Kga,Nat.reduceAdd,Nat.reduceMul,toC,Ck,Gb,F7,rep,Kv,Koa]
 refine C6 (Jl rfl) ?_;simp only[Vs.put,reduceIte,Nat.reduceEqDiff];refine Yrr rfl (fun g7=>?_) (fun g7=>?_)
 ·try simp only[g7]
  try simp only[decide_eq_true_eq,decide_eq_false_iff_not,bne_iff_ne,beq_iff_eq,bne_eq_false_iff_eq,beq_eq_false_iff_ne,ne_eq,Kqd,Kye,gt_iff_lt,ge_iff_le,Kze,Kaf,Kzb,Kbf,Kd,Kmb,Kcf,Kdf]at g7
  subst g7;refine Zoe rfl (by decide) ?_;refine Zoe rfl (by decide) ?_;refine Zoe rfl (by decide) ?_;simp only[Vs.put,reduceIte,Nat.reduceEqDiff];refine C6 (Yja rfl rfl) ?_;simp only[Eb,E7,Gc,Vs.put,reduceIte,Nat.reduceEqDiff];refine Zbk rfl (fun h1=>?_) (fun h1=>?_)
  ·try simp only[decide_eq_true_eq,decide_eq_false_iff_not,bne_iff_ne,beq_iff_eq,bne_eq_false_iff_eq,beq_eq_false_iff_ne,ne_eq,Kqd,Kye,gt_iff_lt,ge_iff_le,Kze,Kaf,Kzb,Kbf,Kd,Kmb,Kcf,Kdf]at h1
   refine Zqb ?_;simp only[E7,Gc,F6,ev,St.opd,Vs.get,reduceIte,Nat.reduceEqDiff,Kub];rw[Zu4 rfl];refine Znk rfl rfl rfl ?_ rfl (W7 rfl (by simp) (W7 rfl (by simp) (W8 (W8 rfl)))) rfl rfl;exact Lf rfl (Lf rfl (Lf rfl (Lf rfl Zpa)))
  ·exact absurd h1 (by simp at h1)
 ·try simp only[g7]
  try simp only[decide_eq_true_eq,decide_eq_false_iff_not,bne_iff_ne,beq_iff_eq,bne_eq_false_iff_eq,beq_eq_false_iff_ne,ne_eq,Kqd,Kye,gt_iff_lt,ge_iff_le,Kze,Kaf,Kzb,Kbf,Kd,Kmb,Kcf,Kdf]at g7
  subst g7;refine Zod rfl ?_;refine C6 (Jl rfl) ?_;simp only[Vs.put,reduceIte,Nat.reduceEqDiff];refine Zod rfl ?_;refine Yrq ?_;simp only[Ke,Ktb,St.opd,Vs.get,Vs.put,reduceIte,Nat.reduceEqDiff,Kub];refine⟨_,_,Yse secs cache fuse false hf,_,rfl,_,rfl,by simp [Bk,Be],Zfj (⟨rfl,.inl rfl,by simp [Bk,Be],_,rfl,by simp,by first|rfl|(simp;done)|exact (Kib (by simp)).symm⟩) (Zfj (⟨rfl,.inl rfl,by simp [Bk,Be],_,rfl,by simp,by first|rfl|(simp;done)|exact (Kib (by simp)).symm⟩) (Zfj (rfl) (Zfj (rfl) (Fe)))),_,rfl,_,rfl, ?_⟩;simp only[Ap,Gg,O1,Fc,Kxa,Kje,Klf,Ked,Kw,Kl,Kn,Kf,Ki,Klb,Kja,Khb,Kza,if_true,if_false,Kla,List.drop_nil,H7,Ei,Vs.put,reduceIte,Nat.reduceEqDiff,Kr,Nat.reduceAdd,Gb,F7]
  try simp only[Bq,Vs.put,Cv,del,Eu,reduceIte,Nat.reduceEqDiff,Nat.reduceAdd]
  refine Zod rfl ?_;refine C6 (Yjb rfl rfl) ?_;refine C6 (Yi9 rfl rfl) ?_;simp only[Eb,E7,Gc,Vs.put,reduceIte,Nat.reduceEqDiff];refine Zbk rfl (fun h1=>?_) (fun h1=>?_)
  ·have hz:fuse=0:=by simpa [opR] using h1
   obtain⟨z1,z2,_⟩:=Zgv (down:=false) hz;simp only[z1,z2];rw[Zu6 hz];refine Zqb ?_;simp only[E7,Gc,F6,ev,St.opd,Vs.get,reduceIte,Nat.reduceEqDiff,Kub];refine Znk rfl rfl rfl ?_ rfl (W7 rfl (by simp) (W7 rfl (by simp) (W8 (W8 rfl)))) rfl rfl;exact Lf rfl (Lf rfl (Lf rfl (Lf rfl Zpa)))
  ·have hz:¬fuse=0:=by simpa [opR] using h1
   obtain⟨z2,_⟩:=Zgu (down:=false) hz;simp only[z2];rw[Vn hz];refine Zqc ?_;simp only[E7,Gc];refine Ph ?_;refine Ph ?_;refine Zbl ?_;unfold Yad;refine C6 (Yi8) ?_;simp only[Eb,E7,Gc,Vs.put,reduceIte,Nat.reduceEqDiff];refine Zqa ?_;refine Yvg [0,2] (α:=Nat) (fun i=>[(2,.a (.c (.lf (.int .i64 (i:Nat)))))]) (fun i=>[(0,.bx [.rf 1 [] 1 0 secs.length,.rf 2 [] 2 0 cache.length,.lf (.int .i64 (opF fuse)),.lf (.bool false)]),(1,.tr 1 (sD (flL secs (cache.take i)))),(2,.tr 2 (wH cache i))]) (3) (fun i=>i<=cache.length) (fun i=>cache.length-i) (0) [(0,0),(1,1),(2,2)] ?_ (by decide) ?_ ?_ ?_
   ·exact Kca _
   ·simp only[sel,Vs.get,upd,Vs.put,reduceIte,Nat.reduceEqDiff]
    repeat' (first|exact Zun|refine Zuo ?_|refine Zum rfl ?_ ?_)
    all_goals (try simp only[V.map,A.map,Ds,Vs.get,reduceIte,Nat.reduceEqDiff,Ke,Ktb])
    all_goals (try rfl)
   ·repeat' (first|exact Zz0|refine Ws 0 rfl rfl ?_ ?_|refine Ws 1 rfl rfl ?_ ?_|refine Ws 2 rfl rfl ?_ ?_)
    all_goals (try simp only[Q9,Ds,Vs.get,reduceIte,Nat.reduceEqDiff,Ke,Ktb])
    all_goals (try rfl)
   ·rintro i hinv;simp only[sel,Vs.get,upd,Vs.put,reduceIte,Nat.reduceEqDiff];refine Ph ?_;refine Ph ?_;refine Zbl ?_;unfold Yae;refine C6 (Jl rfl) ?_;refine C6 (Jl rfl) ?_;simp only[Vs.put,reduceIte,Nat.reduceEqDiff]
    first|refine C6 (Vh rfl) ?_|refine C6 (Vi rfl) ?_
    first|refine C6 (Qg rfl) ?_|refine C6 (Qh rfl) ?_
    try simp only[Kza,Khb,Kja,Klb,Kl,Kn,Kw,Kf,Ki,Kr,Kga,Nat.reduceAdd,Nat.reduceMul,toC,Ck,Gb,F7,rep,Kv,Koa]
    first|refine C6 (Sk rfl rfl rfl) ?_|refine C6 (Oe rfl rfl (rfl) rfl) ?_|refine C6 (Og rfl rfl (rfl) rfl) ?_
    try simp only[Kza,Khb,Kja,Klb,Kl,Kn,Kw,Kf,Ki,Kr,Kga,Nat.reduceAdd,Nat.reduceMul,toC,Ck,Gb,F7,rep,Kv,Koa]
    first|refine C6 (Yi7 rfl) ?_|refine C6 (Yi6 rfl) ?_
    refine C6 (Zus rfl rfl rfl) ?_;simp only[Vs.put,reduceIte,Nat.reduceEqDiff];simp only[Eb,E7,Gc,Vs.put,reduceIte,Nat.reduceEqDiff];refine Zbk rfl (fun h4=>?_) (fun h4=>?_)
    ·try simp only[decide_eq_true_eq,decide_eq_false_iff_not,bne_iff_ne,beq_iff_eq,bne_eq_false_iff_eq,beq_eq_false_iff_ne,ne_eq,Kqd,Kye,gt_iff_lt,ge_iff_le,Kze,Kaf,Kzb,Kbf,Kd,Kmb,Kcf,Kdf]at h4
     have hib:i<cache.length:=by omega
     have e1:IntKind.i64.wrap ((i:Int)+1)=((i+1:Nat):Int):=by rw[Zq8 (by omega) (by omega)];rfl
     have hdi:=hd _ (Kcb hib);obtain⟨k,hk⟩:∃k:Nat,cache[i].1=k:=⟨cache[i].1.toNat,by omega⟩;have hkl:k<secs.length:=by omega
     have him:k<(flL secs (cache.take i)).length:=by rw[Zp];exact hkl
     refine Zqc ?_;simp only[E7,Gc];refine Ph ?_;refine Zqa ?_;refine Ybv rfl rfl ?_;unfold Yag;refine Ep (Jl rfl) rfl ?_
     first|refine Ep (Vh rfl) rfl ?_|refine Ep (Vi rfl) rfl ?_
     first|refine Ep (Qg rfl) rfl ?_|refine Ep (Qh rfl) rfl ?_
     try simp only[Kza,Khb,Kja,Klb,Kl,Kn,Kw,Kf,Ki,Kr,Kga,Nat.reduceAdd,Nat.reduceMul,toC,Ck,Gb,F7,rep,Kv,Koa]
     first|refine F4 (Sk rfl rfl rfl) Fe (Krb.2 (Kea rfl)) ?_|refine F4 (Oe rfl rfl (rfl) rfl) Fe (Krb.2 (Kea rfl)) ?_|refine F4 (Og rfl rfl (rfl) rfl) Fe (Krb.2 (Kea rfl)) ?_
     try simp only[Kza,Khb,Kja,Klb,Kl,Kn,Kw,Kf,Ki,Kr,Kga,Nat.reduceAdd,Nat.reduceMul,toC,Ck,Gb,F7,rep,Kv,Koa]
     refine Ep (Jl rfl) rfl ?_;simp only[Vs.put,reduceIte,Nat.reduceEqDiff]
     first|refine Ep (Vh rfl) rfl ?_|refine Ep (Vi rfl) rfl ?_
     first|refine Ep (Qg rfl) rfl ?_|refine Ep (Qh rfl) rfl ?_
     try simp only[Kza,Khb,Kja,Klb,Kl,Kn,Kw,Kf,Ki,Kr,Kga,Nat.reduceAdd,Nat.reduceMul,toC,Ck,Gb,F7,rep,Kv,Koa]
     first|refine F4 (Sk rfl rfl rfl) Fe (Krb.2 (Kea rfl)) ?_|refine F4 (Oe rfl rfl (rfl) rfl) Fe (Krb.2 (Kea rfl)) ?_|refine F4 (Og rfl rfl (rfl) rfl) Fe (Krb.2 (Kea rfl)) ?_
     try simp only[Kza,Khb,Kja,Klb,Kl,Kn,Kw,Kf,Ki,Kr,Kga,Nat.reduceAdd,Nat.reduceMul,toC,Ck,Gb,F7,rep,Kv,Koa]
     refine Ep (Jl rfl) rfl ?_;refine Ep (Zlx rfl rfl rfl (by omega)) rfl ?_;simp only[Vs.put,reduceIte,Nat.reduceEqDiff]
     first|refine Ep (Qg rfl) rfl ?_|refine Ep (Qh rfl) rfl ?_
     try simp only[Kza,Khb,Kja,Klb,Kl,Kn,Kw,Kf,Ki,Kr,Kga,Nat.reduceAdd,Nat.reduceMul,toC,Ck,Gb,F7,rep,Kv,Koa]
     first|refine F4 (Sk rfl rfl rfl) Fe (Krb.2 (Kea rfl)) ?_|refine F4 (Oe rfl rfl (Xh hib) rfl) Fe (Krb.2 (Kea rfl)) ?_|refine F4 (Og rfl rfl (Xh hib) rfl) Fe (Krb.2 (Kea rfl)) ?_|refine F4 (Oe rfl rfl (rfl) rfl) Fe (Krb.2 (Kea rfl)) ?_|refine F4 (Og rfl rfl (rfl) rfl) Fe (Krb.2 (Kea rfl)) ?_
     try simp only[Kza,Khb,Kja,Klb,Kl,Kn,Kw,Kf,Ki,Kr,Kga,Nat.reduceAdd,Nat.reduceMul,toC,Ck,Gb,F7,rep,Kv,Koa]
     refine Ep (Jl rfl) rfl ?_
     first|refine Ep (Vh rfl) rfl ?_|refine Ep (Vi rfl) rfl ?_
     first|refine Ep (Qg rfl) rfl ?_|refine Ep (Qh rfl) rfl ?_
     try simp only[Kza,Khb,Kja,Klb,Kl,Kn,Kw,Kf,Ki,Kr,Kga,Nat.reduceAdd,Nat.reduceMul,toC,Ck,Gb,F7,rep,Kv,Koa]
     simp only[Vs.put,reduceIte,Nat.reduceEqDiff]
     first|refine F4 (Sk rfl rfl rfl) Fe (Krb.2 (Kea rfl)) ?_|refine F4 (Oe rfl rfl (rfl) rfl) Fe (Krb.2 (Kea rfl)) ?_|refine F4 (Og rfl rfl (rfl) rfl) Fe (Krb.2 (Kea rfl)) ?_
     try simp only[Kza,Khb,Kja,Klb,Kl,Kn,Kw,Kf,Ki,Kr,Kga,Nat.reduceAdd,Nat.reduceMul,toC,Ck,Gb,F7,rep,Kv,Koa]
     refine Ep (Jl rfl) rfl ?_;refine Ep (Zlx rfl rfl rfl (by omega)) rfl ?_
     first|refine Ep (Qg rfl) rfl ?_|refine Ep (Qh rfl) rfl ?_
     try simp only[Kza,Khb,Kja,Klb,Kl,Kn,Kw,Kf,Ki,Kr,Kga,Nat.reduceAdd,Nat.reduceMul,toC,Ck,Gb,F7,rep,Kv,Koa]
     first|refine F4 (Sk rfl rfl rfl) Fe (Krb.2 (Kea rfl)) ?_|refine F4 (Oe rfl rfl (Xh hib) rfl) Fe (Krb.2 (Kea rfl)) ?_|refine F4 (Og rfl rfl (Xh hib) rfl) Fe (Krb.2 (Kea rfl)) ?_|refine F4 (Oe rfl rfl (rfl) rfl) Fe (Krb.2 (Kea rfl)) ?_|refine F4 (Og rfl rfl (rfl) rfl) Fe (Krb.2 (Kea rfl)) ?_
     try simp only[Kza,Khb,Kja,Klb,Kl,Kn,Kw,Kf,Ki,Kr,Kga,Nat.reduceAdd,Nat.reduceMul,toC,Ck,Gb,F7,rep,Kv,Koa]
     refine Ep (Zlx (j:=k) rfl rfl hk (by omega)) rfl ?_;simp only[Vs.put,reduceIte,Nat.reduceEqDiff];refine Ysk (by intros;nofun) ?_;refine Yu1 rfl rfl rfl rfl (Xh hib) rfl (by simp) (by decide) rfl (Yai him) (by simp) (Kea rfl) ?_;simp only[S5,Root.map,Ke,Ktb,del,reduceIte,Nat.reduceEqDiff,Kl,Vs.put,Ex];rw[Ytb _ k cache[i].2 him,Yw8 hib,<-Zva hib hk];simp only[Bq,Cv,V.map,A.map,Ex,Zy0,and_false,if_false,Ke,Ktb,Vs.put,reduceIte,Nat.reduceEqDiff];refine⟨Fe,.inr ⟨by first|rfl|trivial,by first|rfl|decide, ?_⟩⟩
     try simp only[Bq,Cv,V.map,A.map,A7,Ex,Zy0,and_false,if_false,Ke,Ktb,Vs.put,reduceIte,Nat.reduceEqDiff,List.isPrefixOf,Kxe,Kld,Kla]
     try simp only[Bq,Vs.put,Cv,del,Eu,reduceIte,Nat.reduceEqDiff,Nat.reduceAdd]
     try refine Ysj ?_
     simp only[E7,Gc,Vs.put,reduceIte,Nat.reduceEqDiff];refine Zbl ?_;unfold Yaf;refine C6 (Jl rfl) ?_;refine C6 (Zus rfl rfl rfl) ?_;refine C6 (Jl rfl) ?_;simp only[Eb,E7,Gc,Vs.put,reduceIte,Nat.reduceEqDiff]
     try simp only[E7,Gc]
     refine⟨i+1, ?_, ?_,rfl,[(0,0),(1,1),(2,2)],by decide, ?_, ?_⟩
     ·omega
     ·first|omega|(dsimp only;omega)
     ·simp only[sel,Vs.get,upd,Vs.put,reduceIte,Nat.reduceEqDiff]
      repeat' (first|exact Zun|refine Zuo ?_|refine Zum rfl ?_ ?_)
      all_goals (try simp only[V.map,A.map,Ds,Vs.get,reduceIte,Nat.reduceEqDiff,Ke,Ktb,e1])
     ·repeat' (first|exact Zz0|refine Ws 0 rfl rfl ?_ ?_|refine Ws 1 rfl rfl ?_ ?_|refine Ws 2 rfl rfl ?_ ?_)
      all_goals (try simp only[Q9,Ds,Vs.get,reduceIte,Nat.reduceEqDiff,Ke,Ktb,e1])
    ·try simp only[decide_eq_true_eq,decide_eq_false_iff_not,bne_iff_ne,beq_iff_eq,bne_eq_false_iff_eq,beq_eq_false_iff_ne,ne_eq,Kqd,Kye,gt_iff_lt,ge_iff_le,Kze,Kaf,Kzb,Kbf,Kd,Kmb,Kcf,Kdf]at h4
     have hib:i=cache.length:=by omega
     subst hib;simp only[Kjc];refine Ybu ?_;simp only[E7,Gc,if_true,Nat.reduceEqDiff,if_false,reduceIte];refine Zbl ?_;unfold Yah;refine C6 (Jl rfl) ?_;simp only[Vs.put,reduceIte,Nat.reduceEqDiff];refine Zyn (by intros;nofun) ?_;refine .inl ⟨_,rfl,_,rfl, ?_⟩;simp only[E8,Kza,Khb,Kja,Klb,Kl,Kn,Kw,Kf,Ki,Kr,Kga,Nat.reduceAdd,Nat.reduceMul,toC,Ck,Gb,F7,rep,Kv,Koa]
     try simp only[Bq,Vs.put,Cv,del,Eu,reduceIte,Nat.reduceEqDiff,Nat.reduceAdd]
     first|refine C6 (Vh rfl) ?_|refine C6 (Vi rfl) ?_
     first|refine C6 (Qg rfl) ?_|refine C6 (Qh rfl) ?_
     try simp only[Kza,Khb,Kja,Klb,Kl,Kn,Kw,Kf,Ki,Kr,Kga,Nat.reduceAdd,Nat.reduceMul,toC,Ck,Gb,F7,rep,Kv,Koa]
     refine Zyn (by intros;nofun) ?_;refine Yu0 rfl rfl rfl rfl (Kea rfl) ?_;simp only[Kza,Khb,Kja,Klb,Kl,Kn,Kw,Kf,Ki,Kr,Kga,Nat.reduceAdd,Nat.reduceMul,toC,Ck,Gb,F7,rep,Kv,Koa]
     try simp only[Bq,Vs.put,Cv,del,Eu,reduceIte,Nat.reduceEqDiff,Nat.reduceAdd]
     simp only[Eb,E7,Gc,Vs.put,reduceIte,Nat.reduceEqDiff];simp only[E7,Gc,F6,ev,St.opd,Vs.get,reduceIte,Nat.reduceEqDiff,Kub];refine Znk rfl rfl rfl ?_ rfl (W7 rfl (by simp) (W7 rfl (by simp) (W8 (W8 rfl)))) rfl rfl;exact Lf rfl (Lf rfl (Lf rfl (Lf rfl Zpa)))
end
noncomputable def Zt6:GEnt Tryz.prog:=⟨124,[⟨true,false,txQ,[.ow,.ow,.rd,.rd],(some txQ)⟩],[],Lq,fun x y hy=>by
 unfold Lq at hy;obtain⟨h,hy⟩:=Dp hy;have h:=of_decide_eq_true h;have hy:=Option.some.inj hy;subst hy;exact Ys3 x.1 x.2.1 x.2.2.1 x.2.2.2 h.1 h.2.1 h.2.2.1 h.2.2.2⟩
theorem Ymb x:fX [.see Fn,.see Zlk,.see Zt5] [(14,.el .Y),(15,.el .Y)] .d Tryz.f174 [(false,.I .i64),(false,.I .i64)] [(false,.L .Y)] x =
 Zcx x:=by kernel_rfl
def Yhl:=eS Tryz.func174 (by kernel_rfl) Ymb
theorem Ynb x:fG [.see Yhp,.see Zua,.see Zt3,.gen Zt8,.gen Zt6,.see Yhl] [] (.sq none .d (.sq (some [.bx 0 [.K,.O txC,
 .L (.I .i64),.L .B,.K,.K,.K,.K,.K],.kt 1,.kt 4]) (.sq none .d (.bl (.lp [.bx 0 [.K,.O txC,.L (.I .i64),.L .B,.K,.K,.K,.K,.K],.kt 1,.kt 4,.lt 5 (.I .i64)] .d)))
 .d)) Tryz.f102 [⟨true,false,Jc,[.ow,.ow,.rd,.rd,.rx,.rd,.rx,.rd,.rd],(some (.P txA (.P txF (.P (.I .i64) (.P .B txI)))))⟩,⟨false,false,.I .i64,[.rd],none⟩] []
 x=P0 x:=by kernel_rfl
def Zub:=eG Tryz.func102 (by kernel_rfl) Ynb
theorem Yl9 x:fX [.see Yhf,.gen Zub] [] .d Tryz.f41 [] [(true,Jc)] x=Zcw x:=by kernel_rfl
def Yhk:=eS Tryz.func41 (by kernel_rfl) Yl9
theorem Ynd x:fG [] [] (.sq none .d (.sq none .d (.sq none .d (.sq (some [.bx 0 [.K,.L (.I .i64),.K],.lt 3 (.I .i64)]) .d .d)))) Tryz.f155 [⟨true,false,txH,[.rx,
 .rd,.rd],(some txE)⟩] [(false,.I .i64)] x=Rw x:=by kernel_rfl
def Yh8:=eG Tryz.func155 (by kernel_rfl) Ynd
theorem Ync x:fG [.gen Yh8] [] .d Tryz.f85 [⟨true,false,txH,[.rx,.rd,.rd],(some txE)⟩,⟨false,false,.I .i64,[.rd],none⟩] [(false,.I .i64)] x =
 D5 x:=by kernel_rfl
def Oc:=eG Tryz.func85 (by kernel_rfl) Ync
theorem Ynn x:fG [.gen Oc] [] .d Tryz.f194 [⟨true,false,txH,[.rx,.rd,.rd],(some txE)⟩] [(false,.I .i64)] x=Zc8 x:=by kernel_rfl
def Yie:=eG Tryz.func194 (by kernel_rfl) Ynn
theorem Ynj x:fG [.gen Oc] [] .d Tryz.f193 [⟨true,false,txH,[.rx,.rd,.rd],(some txE)⟩,⟨false,false,.L .S,[.rd],none⟩] [(false,.S)] x=Zc5 x :=
 by kernel_rfl
def Yib:=eG Tryz.func193 (by kernel_rfl) Ynj
theorem Yng x:fG [.gen Yib] [(4,.el .S)] .d Tryz.f154 [⟨true,false,txH,[.rx,.rd,.rd],(some txE)⟩] [(false,.S)] x=Yj x:=by kernel_rfl
def Zuc:=eG Tryz.func154 (by kernel_rfl) Yng
theorem Ynf x:fG [.gen Oc] [] .d Tryz.f79 [⟨true,false,txH,[.rx,.rd,.rd],(some txE)⟩,⟨false,false,.L (.I .i64),[.rd],none⟩] [(false,.I .i64)] x =
 Jj x:=by kernel_rfl
def Zi:=eG Tryz.func79 (by kernel_rfl) Ynf
theorem Ynm x:fG [.gen Zi] [(4,.el (.I .i64))] .d Tryz.f234 [⟨true,false,txH,[.rx,.rd,.rd],(some txE)⟩] [(false,.I .i64)] x=Zc7 x:=by kernel_rfl
def Yid:=eG Tryz.func234 (by kernel_rfl) Ynm
theorem Ynu x:fG [.gen Yid,.gen Zi,.see Zlg] [(14,.el (.I .i64)),(19,.el (.I .i64))] .d Tryz.f225 [⟨true,false,txH,[.rx,.rd,.rd],(some
 txE)⟩,⟨false,false,.I .i64,[.rd],none⟩] [(false,.I .i64)] x=Zda x:=by kernel_rfl
def Yik:=eG Tryz.func225 (by kernel_rfl) Ynu
theorem Ynv x:fG [.gen Oc,.gen Yik,.see Ze7] [(9,.el .Y)] (.sq none .d (.sq none .d (.sq (some [.bx 0 [.K,.L (.I .i64),.L (.I .i64)],.ot 7
 .Y]) (.sq none .d (.bl (.lp [.bx 0 [.K,.L (.I .i64),.L (.I .i64)],.kt 1,.ot 7 .Y,.lt 8 (.I .i64)] .d))) .d))) Tryz.f196 [⟨true,false,txH,[.rx,.rd,.rd],(some txE)⟩,
 ⟨false,false,.I .i64,[.rd],none⟩,⟨false,false,.I .i64,[.rd],none⟩] [(false,.S)] x=Ym x:=by kernel_rfl
def Yil:=eG Tryz.func196 (by kernel_rfl) Ynv
theorem Ymt x:fX [.see Zt2] [(10,.el (.I .i64)),(26,.el (.I .i64)),(29,.el (.I .i64)),(30,.el (.I .i64))] (.sq none .d (.sq none .d (.sq none .d (.sq (some
 [.ot 4 (.I .i64)]) (.sq none .d (.bl (.lp [.ot 4 (.I .i64),.kt 5,.lt 6 (.I .i64)] .d))) .d)))) Tryz.f239 [(false,.S)] [(false,.L (.I .i64)),(false,.B)] x=Zc0 x :=
 by kernel_rfl
def Yhv:=eS Tryz.func239 (by kernel_rfl) Ymt
end
end Go.Vs
