import Derived.Test.YtmfmjngkbddenaaGreatDoorVsPtk2
set_option linter.all false
namespace Go.Vs
open Go.Proofs
set_option maxRecDepth 100000
noncomputable section
def Yaq:List GI:=[⟨(some 3),.rd (.mv (.t 0)),none⟩,
 ⟨(some 4),.rd (.nilc (.t 3)),none⟩,
 ⟨(some 5),.rd (.fad 3 (.t 4)),none⟩,
 ⟨(some 6),.rd (.load none (.t 5)),none⟩,
 ⟨(some 7),.rd (.mv (.t 6)),none⟩,
 ⟨(some 8),.rd (.mv (.t 0)),(some (7,false))⟩,
 ⟨(some 9),.wr (.call 183 [(.t 8)]),(some (7,false))⟩,
 ⟨(some 10),.rd (.un .not (.t 9)),(some (7,false))⟩,
 ⟨(some 11),.rd (.pick (.t 7) (.k (.a (.c (.lf (.bool true))))) (.t 10)),none⟩]
def Yar:List GI:=[⟨(some 2),.rd (.mv (.k (.a (.c (.lf (.int .i64 0)))))),none⟩]
def Yas:List GI:=[⟨(some 12),.rd (.mv (.t 2)),none⟩,
 ⟨(some 13),.rd (.mv (.t 0)),none⟩,
 ⟨(some 14),.rd (.nilc (.t 13)),none⟩,
 ⟨(some 15),.rd (.fad 1 (.t 14)),none⟩,
 ⟨(some 16),.rd (.load none (.t 15)),none⟩,
 ⟨(some 17),.rd (.len (.t 16)),none⟩,
 ⟨(some 18),.rd (.bin .lss (.t 12) (.t 17)),none⟩]
def Yau:List DI:=[⟨⟨(some 21),.rd (.mv (.t 0)),none⟩,[],false,0,0⟩,
 ⟨⟨(some 22),.rd (.nilc (.t 21)),none⟩,[0],false,0,0⟩,
 ⟨⟨(some 23),.rd (.fad 0 (.t 22)),none⟩,[1,0],false,0,0⟩,
 ⟨⟨(some 24),.rd (.load none (.t 23)),none⟩,[2,1,0],false,0,0⟩,
 ⟨⟨(some 25),.rd (.mv (.t 0)),none⟩,[],false,0,0⟩,
 ⟨⟨(some 26),.rd (.nilc (.t 25)),none⟩,[4],false,0,0⟩,
 ⟨⟨(some 27),.rd (.fad 1 (.t 26)),none⟩,[5,4],false,0,0⟩,
 ⟨⟨(some 28),.rd (.load none (.t 27)),none⟩,[6,5,4],false,0,0⟩,
 ⟨⟨(some 29),.rd (.mv (.t 2)),none⟩,[],false,0,0⟩,
 ⟨⟨(some 30),.rd (.iad 2 (.t 28) (.t 29)),none⟩,[7,8,6,5,4],false,0,0⟩,
 ⟨⟨(some 31),.rd (.fad 0 (.t 30)),none⟩,[9,7,8,6,5,4],false,0,0⟩,
 ⟨⟨(some 32),.rd (.load none (.t 31)),none⟩,[10,9,7,8,6,5,4],false,0,0⟩,
 ⟨⟨(some 33),.rd (.mv (.t 0)),none⟩,[],false,0,0⟩,
 ⟨⟨(some 34),.rd (.nilc (.t 33)),none⟩,[12],false,0,0⟩,
 ⟨⟨(some 35),.rd (.fad 1 (.t 34)),none⟩,[13,12],false,0,0⟩,
 ⟨⟨(some 36),.rd (.load none (.t 35)),none⟩,[14,13,12],false,0,0⟩,
 ⟨⟨(some 37),.rd (.mv (.t 2)),none⟩,[],false,0,0⟩,
 ⟨⟨(some 38),.rd (.iad 2 (.t 36) (.t 37)),none⟩,[15,16,14,13,12],false,0,0⟩,
 ⟨⟨(some 39),.rd (.fad 1 (.t 38)),none⟩,[17,15,16,14,13,12],false,0,0⟩,
 ⟨⟨(some 40),.rd (.load none (.t 39)),none⟩,[18,17,15,16,14,13,12],false,0,0⟩,
 ⟨⟨(some 41),.rd (.iad 1 (.t 24) (.t 32)),none⟩,[3,11,19,2,1,0,10,9,7,8,6,5,4,18,17,15,16,14,13,12],false,0,0⟩,
 ⟨⟨none,.wr (.store 1 (.t 41) (.t 40)),none⟩,[20,3,11,19,2,1,0,10,9,7,8,6,5,4,18,17,15,16,14,13,12],true,0,0⟩]
def Yat:List GI:=[⟨(some 19),.rd (.mv (.t 2)),none⟩,
 ⟨(some 20),.rd (.bin .add (.t 19) (.k (.a (.c (.lf (.int .i64 1)))))),none⟩,
 ⟨(some 2),.rd (.mv (.t 20)),none⟩]
def Yav:List GI:=[⟨(some 42),.rd (.mv (.t 0)),none⟩,
 ⟨(some 43),.wr (.lit 2 0 [.lf (.int .i64 0),.nl 1] []),none⟩,
 ⟨(some 44),.rd (.nilc (.t 42)),none⟩,
 ⟨(some 45),.rd (.fad 1 (.t 44)),none⟩,
 ⟨none,.wr (.store 1 (.t 45) (.t 43)),none⟩]
def Yap:Stm:=(.seq (.seq (.reg Yaq) (.cond (.t 11) .ret .skip)) (.seq (.seq (.reg Yar) (.block 0 (.loop (.seq (.seq (.reg Yas) (.cond (.t 18) .skip (.exit 0))) (.seq (.block 1 (.drw Yau)) (.reg Yat)))))) (.reg Yav)))
theorem Ywy:(Tryz.f124.body.bind (trC Tryz.prog Tryz.f124.ntmps))=some Yap:=by kernel_rfl
section
set_option maxHeartbeats 1000000
set_option maxRecDepth 4000
theorem Ysv (secs:List (List UInt8)) (cache:List Wr) (fuse:Int) (down:Bool) (hf:-1<=fuse/\fuse<=1000):Ir Tryz.prog 183 [.ptr [(.rx,.sl 1 (sD secs)),(.rx,.sl 2 (wD cache)),(.rd,.lf (.int .i64 fuse)),(.rd,.lf (.bool down))]] ⟨[(false,[.lf (.bool (opR fuse))])],[],[[.lf (.int .i64 (opF fuse)),.lf (.bool (opD fuse down))]]⟩ :=
 Zup.ok (secs,(cache,(fuse,down))) (opR fuse,(opF fuse,opD fuse down)) (by
  show U3 (secs,(cache,(fuse,down)))=_;unfold U3 opR opF opD;simp only;by_cases h0:fuse=0
  ·subst h0;rfl
  have hb:(fuse==0)=false:=by simp [h0]
  rw[show iEq fuse 0=false from by simp [iEq,h0],show ∀x y:Option (Bool×(Int×Bool)),cnd false x y=y from fun _ _=>rfl];by_cases h1:0<fuse
  ·have e:Ba .i64 fuse 1=fuse-1:=Zrr (by omega) (by omega);rw[show iGt fuse 0=true from by simp [iGt,h1],show ∀x y:Option (Bool×(Int×Bool)),cnd true x y=x from fun _ _=>rfl,e];simp [hb,h0,h1];rfl
  ·rw[show iGt fuse 0=false from by simp [iGt];omega,show ∀x y:Option (Bool×(Int×Bool)),cnd false x y=y from fun _ _=>rfl];simp [hb,h0,h1];rfl)
theorem Ytk (secs:List (List UInt8)) (cache:List Wr) (fuse:Int) (down:Bool) (hf:-1<=fuse/\fuse<=1000) (hl:secs.length<2^40) (hm:cache.length<2^40) (hd:∀w∈cache,0<=w.1/\w.1<=(secs.length:Int)-1):Ir Tryz.prog 124 [.ptr [(.ow,.sl 1 (sD secs)),(.ow,.sl 2 (wD cache)),(.rd,.lf (.int .i64 fuse)),(.rd,.lf (.bool down))]] ⟨[],[],[[.sl 1 (sD (flC secs cache fuse down).1),.sl 2 (wD (flC secs cache fuse down).2.1),.lf (.int .i64 (flC secs cache fuse down).2.2.1),.lf (.bool (flC secs cache fuse down).2.2.2)]]⟩:=by
 obtain⟨c,hb,hs⟩:=Ze Ywy;refine Zpt Tryz.func124 hb hs rfl (show 1<=46 by decide) ?_;clear hb hs c;simp only[Bm,Ca,flat,Kxa,Kke,Arg.cells,Kn,Km,Au,inC,B3,C8,Qn,I4,inV,inB,I7,Kf,Ki,Khb,Kza,Klb,Kja,Iw,Kr,Kga,Kw,Nat.reduceAdd,F7,Yxo];unfold Yap;refine Pn ?_;refine Pn ?_;refine Zbv ?_;unfold Yaq;refine C9 (Jm rfl) ?_
 first|refine C9 (Vr rfl) ?_|refine C9 (Vt rfl) ?_
 first|refine C9 (Qk rfl) ?_|refine C9 (Ql rfl) ?_
 try simp only[Kza,Khb,Kja,Klb,Km,Kn,Kw,Kf,Ki,Kr,Kga,Nat.reduceAdd,Nat.reduceMul,toC,Co,Gb,F7,rep,Kv,Kpa]
 first|refine C9 (Su rfl rfl rfl) ?_|refine C9 (Og rfl rfl (rfl) rfl) ?_|refine C9 (Oh rfl rfl (rfl) rfl) ?_
 try simp only[Kza,Khb,Kja,Klb,Km,Kn,Kw,Kf,Ki,Kr,Kga,Nat.reduceAdd,Nat.reduceMul,toC,Co,Gb,F7,rep,Kv,Kpa]
 refine C9 (Jm rfl) ?_;simp only[Vs.put,reduceIte,Nat.reduceEqDiff];refine Ysb rfl (fun g7=>?_) (fun g7=>?_)
 ·try simp only[g7]
  try simp only[decide_eq_true_eq,decide_eq_false_iff_not,bne_iff_ne,beq_iff_eq,bne_eq_false_iff_eq,beq_eq_false_iff_ne,ne_eq,Ksd,Kye,gt_iff_lt,ge_iff_le,Kze,Kaf,Kzb,Kbf,Kd,Kmb,Kcf,Kdf]at g7
  subst g7;refine Zow rfl (by decide) ?_;refine Zow rfl (by decide) ?_;refine Zow rfl (by decide) ?_;simp only[Vs.put,reduceIte,Nat.reduceEqDiff];refine C9 (Yjr rfl rfl) ?_;simp only[Ee,E6,Gc,Vs.put,reduceIte,Nat.reduceEqDiff];refine Zbu rfl (fun h1=>?_) (fun h1=>?_)
  ·try simp only[decide_eq_true_eq,decide_eq_false_iff_not,bne_iff_ne,beq_iff_eq,bne_eq_false_iff_eq,beq_eq_false_iff_ne,ne_eq,Ksd,Kye,gt_iff_lt,ge_iff_le,Kze,Kaf,Kzb,Kbf,Kd,Kmb,Kcf,Kdf]at h1
   refine Zqu ?_;simp only[E6,Gc,F6,ev,St.opd,Vs.get,reduceIte,Nat.reduceEqDiff,Kub];rw[Sz rfl];refine Zn1 rfl rfl rfl ?_ rfl (Xi rfl (by simp) (Xi rfl (by simp) (Xj (Xj rfl)))) rfl rfl;exact Lf rfl (Lf rfl (Lf rfl (Lf rfl Zpr)))
  exact absurd h1 (by simp at h1)
 try simp only[g7]
 try simp only[decide_eq_true_eq,decide_eq_false_iff_not,bne_iff_ne,beq_iff_eq,bne_eq_false_iff_eq,beq_eq_false_iff_ne,ne_eq,Ksd,Kye,gt_iff_lt,ge_iff_le,Kze,Kaf,Kzb,Kbf,Kd,Kmb,Kcf,Kdf]at g7
 subst g7;refine Zov rfl ?_;refine C9 (Jm rfl) ?_;simp only[Vs.put,reduceIte,Nat.reduceEqDiff];refine Zov rfl ?_;refine Ysa ?_;simp only[Ke,Ktb,St.opd,Vs.get,Vs.put,reduceIte,Nat.reduceEqDiff,Kub];refine⟨_,_,Ysv secs cache fuse false hf,_,rfl,_,rfl,by simp [Bl,Bf],Zfs (⟨rfl,.inl rfl,by simp [Bl,Bf],_,rfl,by simp,by first|rfl|(simp;done)|exact (Kib (by simp)).symm⟩) (Zfs (⟨rfl,.inl rfl,by simp [Bl,Bf],_,rfl,by simp,by first|rfl|(simp;done)|exact (Kib (by simp)).symm⟩) (Zfs (rfl) (Zfs (rfl) (Fe)))),_,rfl,_,rfl, ?_⟩;simp only[Ap,Gh,O4,Fc,Kxa,Kke,Klf,Kfd,Kw,Km,Kn,Kf,Ki,Klb,Kja,Khb,Kza,if_true,if_false,Kka,List.drop_nil,Ia,Ej,Vs.put,reduceIte,Nat.reduceEqDiff,Kr,Nat.reduceAdd,Gb,F7]
 try simp only[Bs,Vs.put,C0,del,Et,reduceIte,Nat.reduceEqDiff,Nat.reduceAdd]
 refine Zov rfl ?_;refine C9 (Yjs rfl rfl) ?_;refine C9 (Yjq rfl rfl) ?_;simp only[Ee,E6,Gc,Vs.put,reduceIte,Nat.reduceEqDiff];refine Zbu rfl (fun h1=>?_) (fun h1=>?_)
 ·have hz:fuse=0:=by simpa [opR] using h1
  obtain⟨z1,z2,_⟩:=Zg4 (down:=false) hz;simp only[z1,z2];rw[Z1 hz];refine Zqu ?_;simp only[E6,Gc,F6,ev,St.opd,Vs.get,reduceIte,Nat.reduceEqDiff,Kub];refine Zn1 rfl rfl rfl ?_ rfl (Xi rfl (by simp) (Xi rfl (by simp) (Xj (Xj rfl)))) rfl rfl;exact Lf rfl (Lf rfl (Lf rfl (Lf rfl Zpr)))
 have hz:¬fuse=0:=by simpa [opR] using h1
 obtain⟨z2,_⟩:=Zg3 (down:=false) hz;simp only[z2];rw[Oj hz];refine Zqv ?_;simp only[E6,Gc];refine Pn ?_;refine Pn ?_;refine Zbv ?_;unfold Yar;refine C9 (Yjp) ?_;simp only[Ee,E6,Gc,Vs.put,reduceIte,Nat.reduceEqDiff];refine Zqt ?_;refine Yvw [0,2] (α:=Nat) (fun i=>[(2,.a (.c (.lf (.int .i64 (i:Nat)))))]) (fun i=>[(0,.bx [.rf 1 [] 1 0 secs.length,.rf 2 [] 2 0 cache.length,.lf (.int .i64 (opF fuse)),.lf (.bool false)]),(1,.tr 1 (sD (flL secs (cache.take i)))),(2,.tr 2 (wH cache i))]) (3) (fun i=>i<=cache.length) (fun i=>cache.length-i) (0) [(0,0),(1,1),(2,2)] ?_ (by decide) ?_ ?_ ?_
 ·exact Kda _
 ·simp only[sel,Vs.get,upd,Vs.put,reduceIte,Nat.reduceEqDiff]
  repeat' (first|exact Zu5|refine Zu6 ?_|refine Zu4 rfl ?_ ?_)
  all_goals (try simp only[V.map,A.map,Dx,Vs.get,reduceIte,Nat.reduceEqDiff,Ke,Ktb])
  all_goals (try rfl)
 ·repeat' (first|exact Yae|refine W4 0 rfl rfl ?_ ?_|refine W4 1 rfl rfl ?_ ?_|refine W4 2 rfl rfl ?_ ?_)
  all_goals (try simp only[Rf,Dx,Vs.get,reduceIte,Nat.reduceEqDiff,Ke,Ktb])
  all_goals (try rfl)
 rintro i hinv;simp only[sel,Vs.get,upd,Vs.put,reduceIte,Nat.reduceEqDiff];refine Pn ?_;refine Pn ?_;refine Zbv ?_;unfold Yas;refine C9 (Jm rfl) ?_;refine C9 (Jm rfl) ?_;simp only[Vs.put,reduceIte,Nat.reduceEqDiff]
 first|refine C9 (Vr rfl) ?_|refine C9 (Vt rfl) ?_
 first|refine C9 (Qk rfl) ?_|refine C9 (Ql rfl) ?_
 try simp only[Kza,Khb,Kja,Klb,Km,Kn,Kw,Kf,Ki,Kr,Kga,Nat.reduceAdd,Nat.reduceMul,toC,Co,Gb,F7,rep,Kv,Kpa]
 first|refine C9 (Su rfl rfl rfl) ?_|refine C9 (Og rfl rfl (rfl) rfl) ?_|refine C9 (Oh rfl rfl (rfl) rfl) ?_
 try simp only[Kza,Khb,Kja,Klb,Km,Kn,Kw,Kf,Ki,Kr,Kga,Nat.reduceAdd,Nat.reduceMul,toC,Co,Gb,F7,rep,Kv,Kpa]
 first|refine C9 (Yjo rfl) ?_|refine C9 (Yjn rfl) ?_
 refine C9 (Zva rfl rfl rfl) ?_;simp only[Vs.put,reduceIte,Nat.reduceEqDiff];simp only[Ee,E6,Gc,Vs.put,reduceIte,Nat.reduceEqDiff];refine Zbu rfl (fun h4=>?_) (fun h4=>?_)
 ·try simp only[decide_eq_true_eq,decide_eq_false_iff_not,bne_iff_ne,beq_iff_eq,bne_eq_false_iff_eq,beq_eq_false_iff_ne,ne_eq,Ksd,Kye,gt_iff_lt,ge_iff_le,Kze,Kaf,Kzb,Kbf,Kd,Kmb,Kcf,Kdf]at h4
  have hib:i<cache.length:=by omega
  have e1:IntKind.i64.wrap ((i:Int)+1)=((i+1:Nat):Int):=by rw[Zrr (by omega) (by omega)];rfl
  have hdi:=hd _ (Kcb hib);obtain⟨k,hk⟩:∃k:Nat,cache[i].1=k:=⟨cache[i].1.toNat,by omega⟩;have hkl:k<secs.length:=by omega
  have him:k<(flL secs (cache.take i)).length:=by rw[S3];exact hkl
  refine Zqv ?_;simp only[E6,Gc];refine Pn ?_;refine Zqt ?_;refine Yb8 rfl rfl ?_;unfold Yau;refine Ep (Jm rfl) rfl ?_
  first|refine Ep (Vr rfl) rfl ?_|refine Ep (Vt rfl) rfl ?_
  first|refine Ep (Qk rfl) rfl ?_|refine Ep (Ql rfl) rfl ?_
  try simp only[Kza,Khb,Kja,Klb,Km,Kn,Kw,Kf,Ki,Kr,Kga,Nat.reduceAdd,Nat.reduceMul,toC,Co,Gb,F7,rep,Kv,Kpa]
  first|refine F4 (Su rfl rfl rfl) Fe (Krb.2 (Kea rfl)) ?_|refine F4 (Og rfl rfl (rfl) rfl) Fe (Krb.2 (Kea rfl)) ?_|refine F4 (Oh rfl rfl (rfl) rfl) Fe (Krb.2 (Kea rfl)) ?_
  try simp only[Kza,Khb,Kja,Klb,Km,Kn,Kw,Kf,Ki,Kr,Kga,Nat.reduceAdd,Nat.reduceMul,toC,Co,Gb,F7,rep,Kv,Kpa]
  refine Ep (Jm rfl) rfl ?_;simp only[Vs.put,reduceIte,Nat.reduceEqDiff]
  first|refine Ep (Vr rfl) rfl ?_|refine Ep (Vt rfl) rfl ?_
  first|refine Ep (Qk rfl) rfl ?_|refine Ep (Ql rfl) rfl ?_
  try simp only[Kza,Khb,Kja,Klb,Km,Kn,Kw,Kf,Ki,Kr,Kga,Nat.reduceAdd,Nat.reduceMul,toC,Co,Gb,F7,rep,Kv,Kpa]
  first|refine F4 (Su rfl rfl rfl) Fe (Krb.2 (Kea rfl)) ?_|refine F4 (Og rfl rfl (rfl) rfl) Fe (Krb.2 (Kea rfl)) ?_|refine F4 (Oh rfl rfl (rfl) rfl) Fe (Krb.2 (Kea rfl)) ?_
  try simp only[Kza,Khb,Kja,Klb,Km,Kn,Kw,Kf,Ki,Kr,Kga,Nat.reduceAdd,Nat.reduceMul,toC,Co,Gb,F7,rep,Kv,Kpa]
  refine Ep (Jm rfl) rfl ?_;refine Ep (Zma rfl rfl rfl (by omega)) rfl ?_;simp only[Vs.put,reduceIte,Nat.reduceEqDiff]
  first|refine Ep (Qk rfl) rfl ?_|refine Ep (Ql rfl) rfl ?_
  try simp only[Kza,Khb,Kja,Klb,Km,Kn,Kw,Kf,Ki,Kr,Kga,Nat.reduceAdd,Nat.reduceMul,toC,Co,Gb,F7,rep,Kv,Kpa]
  first|refine F4 (Su rfl rfl rfl) Fe (Krb.2 (Kea rfl)) ?_|refine F4 (Og rfl rfl (Xs hib) rfl) Fe (Krb.2 (Kea rfl)) ?_|refine F4 (Oh rfl rfl (Xs hib) rfl) Fe (Krb.2 (Kea rfl)) ?_|refine F4 (Og rfl rfl (rfl) rfl) Fe (Krb.2 (Kea rfl)) ?_|refine F4 (Oh rfl rfl (rfl) rfl) Fe (Krb.2 (Kea rfl)) ?_
  try simp only[Kza,Khb,Kja,Klb,Km,Kn,Kw,Kf,Ki,Kr,Kga,Nat.reduceAdd,Nat.reduceMul,toC,Co,Gb,F7,rep,Kv,Kpa]
  refine Ep (Jm rfl) rfl ?_
  first|refine Ep (Vr rfl) rfl ?_|refine Ep (Vt rfl) rfl ?_
  first|refine Ep (Qk rfl) rfl ?_|refine Ep (Ql rfl) rfl ?_
  try simp only[Kza,Khb,Kja,Klb,Km,Kn,Kw,Kf,Ki,Kr,Kga,Nat.reduceAdd,Nat.reduceMul,toC,Co,Gb,F7,rep,Kv,Kpa]
  simp only[Vs.put,reduceIte,Nat.reduceEqDiff]
  first|refine F4 (Su rfl rfl rfl) Fe (Krb.2 (Kea rfl)) ?_|refine F4 (Og rfl rfl (rfl) rfl) Fe (Krb.2 (Kea rfl)) ?_|refine F4 (Oh rfl rfl (rfl) rfl) Fe (Krb.2 (Kea rfl)) ?_
  try simp only[Kza,Khb,Kja,Klb,Km,Kn,Kw,Kf,Ki,Kr,Kga,Nat.reduceAdd,Nat.reduceMul,toC,Co,Gb,F7,rep,Kv,Kpa]
  refine Ep (Jm rfl) rfl ?_;refine Ep (Zma rfl rfl rfl (by omega)) rfl ?_
  first|refine Ep (Qk rfl) rfl ?_|refine Ep (Ql rfl) rfl ?_
  try simp only[Kza,Khb,Kja,Klb,Km,Kn,Kw,Kf,Ki,Kr,Kga,Nat.reduceAdd,Nat.reduceMul,toC,Co,Gb,F7,rep,Kv,Kpa]
  first|refine F4 (Su rfl rfl rfl) Fe (Krb.2 (Kea rfl)) ?_|refine F4 (Og rfl rfl (Xs hib) rfl) Fe (Krb.2 (Kea rfl)) ?_|refine F4 (Oh rfl rfl (Xs hib) rfl) Fe (Krb.2 (Kea rfl)) ?_|refine F4 (Og rfl rfl (rfl) rfl) Fe (Krb.2 (Kea rfl)) ?_|refine F4 (Oh rfl rfl (rfl) rfl) Fe (Krb.2 (Kea rfl)) ?_
  try simp only[Kza,Khb,Kja,Klb,Km,Kn,Kw,Kf,Ki,Kr,Kga,Nat.reduceAdd,Nat.reduceMul,toC,Co,Gb,F7,rep,Kv,Kpa]
  refine Ep (Zma (j:=k) rfl rfl hk (by omega)) rfl ?_;simp only[Vs.put,reduceIte,Nat.reduceEqDiff];refine Ys1 (by intros;nofun) ?_;refine Yvh rfl rfl rfl rfl (Xs hib) rfl (by simp) (by decide) rfl (Yaw him) (by simp) (Kea rfl) ?_;simp only[Tf,Root.map,Ke,Ktb,del,reduceIte,Nat.reduceEqDiff,Km,Vs.put,Ew];rw[Yts _ k cache[i].2 him,Yxp hib,<-Zvq hib hk];simp only[Bs,C0,V.map,A.map,Ew,Zzd,and_false,if_false,Ke,Ktb,Vs.put,reduceIte,Nat.reduceEqDiff];refine⟨Fe,.inr ⟨by first|rfl|trivial,by first|rfl|decide, ?_⟩⟩
  try simp only[Bs,C0,V.map,A.map,A7,Ew,Zzd,and_false,if_false,Ke,Ktb,Vs.put,reduceIte,Nat.reduceEqDiff,List.isPrefixOf,Kxe,Knd,Kka]
  try simp only[Bs,Vs.put,C0,del,Et,reduceIte,Nat.reduceEqDiff,Nat.reduceAdd]
  try refine Ys0 ?_
  simp only[E6,Gc,Vs.put,reduceIte,Nat.reduceEqDiff];refine Zbv ?_;unfold Yat;refine C9 (Jm rfl) ?_;refine C9 (Zva rfl rfl rfl) ?_;refine C9 (Jm rfl) ?_;simp only[Ee,E6,Gc,Vs.put,reduceIte,Nat.reduceEqDiff]
  try simp only[E6,Gc]
  refine⟨i+1, ?_, ?_,rfl,[(0,0),(1,1),(2,2)],by decide, ?_, ?_⟩
  ·omega
  ·first|omega|(dsimp only;omega)
  ·simp only[sel,Vs.get,upd,Vs.put,reduceIte,Nat.reduceEqDiff]
   repeat' (first|exact Zu5|refine Zu6 ?_|refine Zu4 rfl ?_ ?_)
   all_goals (try simp only[V.map,A.map,Dx,Vs.get,reduceIte,Nat.reduceEqDiff,Ke,Ktb,e1])
  repeat' (first|exact Yae|refine W4 0 rfl rfl ?_ ?_|refine W4 1 rfl rfl ?_ ?_|refine W4 2 rfl rfl ?_ ?_)
  all_goals (try simp only[Rf,Dx,Vs.get,reduceIte,Nat.reduceEqDiff,Ke,Ktb,e1])
 try simp only[decide_eq_true_eq,decide_eq_false_iff_not,bne_iff_ne,beq_iff_eq,bne_eq_false_iff_eq,beq_eq_false_iff_ne,ne_eq,Ksd,Kye,gt_iff_lt,ge_iff_le,Kze,Kaf,Kzb,Kbf,Kd,Kmb,Kcf,Kdf]at h4
 have hib:i=cache.length:=by omega
 subst hib;simp only[Kkc];refine Yb7 ?_;simp only[E6,Gc,if_true,Nat.reduceEqDiff,if_false,reduceIte];refine Zbv ?_;unfold Yav;refine C9 (Jm rfl) ?_;simp only[Vs.put,reduceIte,Nat.reduceEqDiff];refine Zy0 (by intros;nofun) ?_;refine .inl ⟨_,rfl,_,rfl, ?_⟩;simp only[E7,Kza,Khb,Kja,Klb,Km,Kn,Kw,Kf,Ki,Kr,Kga,Nat.reduceAdd,Nat.reduceMul,toC,Co,Gb,F7,rep,Kv,Kpa]
 try simp only[Bs,Vs.put,C0,del,Et,reduceIte,Nat.reduceEqDiff,Nat.reduceAdd]
 first|refine C9 (Vr rfl) ?_|refine C9 (Vt rfl) ?_
 first|refine C9 (Qk rfl) ?_|refine C9 (Ql rfl) ?_
 try simp only[Kza,Khb,Kja,Klb,Km,Kn,Kw,Kf,Ki,Kr,Kga,Nat.reduceAdd,Nat.reduceMul,toC,Co,Gb,F7,rep,Kv,Kpa]
 refine Zy0 (by intros;nofun) ?_;refine Yvg rfl rfl rfl rfl (Kea rfl) ?_;simp only[Kza,Khb,Kja,Klb,Km,Kn,Kw,Kf,Ki,Kr,Kga,Nat.reduceAdd,Nat.reduceMul,toC,Co,Gb,F7,rep,Kv,Kpa]
 try simp only[Bs,Vs.put,C0,del,Et,reduceIte,Nat.reduceEqDiff,Nat.reduceAdd]
 simp only[Ee,E6,Gc,Vs.put,reduceIte,Nat.reduceEqDiff];simp only[E6,Gc,F6,ev,St.opd,Vs.get,reduceIte,Nat.reduceEqDiff,Kub];refine Zn1 rfl rfl rfl ?_ rfl (Xi rfl (by simp) (Xi rfl (by simp) (Xj (Xj rfl)))) rfl rfl;exact Lf rfl (Lf rfl (Lf rfl (Lf rfl Zpr)))
end
noncomputable def Zuo:GEnt Tryz.prog:=⟨124,[⟨true,false,txQ,[.ow,.ow,.rd,.rd],(some txQ)⟩],[],Lq,fun x y hy=>by
 unfold Lq at hy;obtain⟨h,hy⟩:=Dt hy;have h:=of_decide_eq_true h;have hy:=Option.some.inj hy;subst hy;exact Ytk x.1 x.2.1 x.2.2.1 x.2.2.2 h.1 h.2.1 h.2.2.1 h.2.2.2⟩
theorem Ymu x:fX [.see Fn,.see Zlx,.see Zun] [(14,.el .Y),(15,.el .Y)] .d Tryz.f174 [(false,.I .i64),(false,.I .i64)] [(false,.L .Y)] x =
 Zc6 x:=by kernel_rfl
def Yh2:=eS Tryz.func174 (by kernel_rfl) Ymu
theorem Ynu x:fG [.see Yh6,.see Zus,.see Zul,.gen Zuq,.gen Zuo,.see Yh2] [] (.sq none .d (.sq (some [.bx 0 [.K,.O txC,
 .L (.I .i64),.L .B,.K,.K,.K,.K,.K],.kt 1,.kt 4]) (.sq none .d (.bl (.lp [.bx 0 [.K,.O txC,.L (.I .i64),.L .B,.K,.K,.K,.K,.K],.kt 1,.kt 4,.lt 5 (.I .i64)] .d)))
 .d)) Tryz.f102 [⟨true,false,Je,[.ow,.ow,.rd,.rd,.rx,.rd,.rx,.rd,.rd],(some (.P txA (.P txF (.P (.I .i64) (.P .B txI)))))⟩,⟨false,false,.I .i64,[.rd],none⟩] []
 x=P2 x:=by kernel_rfl
def Zut:=eG Tryz.func102 (by kernel_rfl) Ynu
theorem Yms x:fX [.see Yhw,.gen Zut] [] .d Tryz.f41 [] [(true,Je)] x=Zc5 x:=by kernel_rfl
def Yh1:=eS Tryz.func41 (by kernel_rfl) Yms
theorem Ynw x:fG [] [] (.sq none .d (.sq none .d (.sq none .d (.sq (some [.bx 0 [.K,.L (.I .i64),.K],.lt 3 (.I .i64)]) .d .d)))) Tryz.f155 [⟨true,false,txH,[.rx,
 .rd,.rd],(some txE)⟩] [(false,.I .i64)] x=R7 x:=by kernel_rfl
def Yip:=eG Tryz.func155 (by kernel_rfl) Ynw
theorem Ynv x:fG [.gen Yip] [] .d Tryz.f85 [⟨true,false,txH,[.rx,.rd,.rd],(some txE)⟩,⟨false,false,.I .i64,[.rd],none⟩] [(false,.I .i64)] x =
 D8 x:=by kernel_rfl
def Od:=eG Tryz.func85 (by kernel_rfl) Ynv
theorem Yn6 x:fG [.gen Od] [] .d Tryz.f194 [⟨true,false,txH,[.rx,.rd,.rd],(some txE)⟩] [(false,.I .i64)] x=Zdh x:=by kernel_rfl
def Yiv:=eG Tryz.func194 (by kernel_rfl) Yn6
theorem Yn2 x:fG [.gen Od] [] .d Tryz.f193 [⟨true,false,txH,[.rx,.rd,.rd],(some txE)⟩,⟨false,false,.L .S,[.rd],none⟩] [(false,.S)] x=Zde x :=
 by kernel_rfl
def Yis:=eG Tryz.func193 (by kernel_rfl) Yn2
theorem Ynz x:fG [.gen Yis] [(4,.el .S)] .d Tryz.f154 [⟨true,false,txH,[.rx,.rd,.rd],(some txE)⟩] [(false,.S)] x=Yv x:=by kernel_rfl
def Zuu:=eG Tryz.func154 (by kernel_rfl) Ynz
theorem Yny x:fG [.gen Od] [] .d Tryz.f79 [⟨true,false,txH,[.rx,.rd,.rd],(some txE)⟩,⟨false,false,.L (.I .i64),[.rd],none⟩] [(false,.I .i64)] x =
 Jk x:=by kernel_rfl
def Zt:=eG Tryz.func79 (by kernel_rfl) Yny
theorem Yn5 x:fG [.gen Zt] [(4,.el (.I .i64))] .d Tryz.f234 [⟨true,false,txH,[.rx,.rd,.rd],(some txE)⟩] [(false,.I .i64)] x=Zdg x:=by kernel_rfl
def Yiu:=eG Tryz.func234 (by kernel_rfl) Yn5
theorem Yod x:fG [.gen Yiu,.gen Zt,.see Zlt] [(14,.el (.I .i64)),(19,.el (.I .i64))] .d Tryz.f225 [⟨true,false,txH,[.rx,.rd,.rd],(some
 txE)⟩,⟨false,false,.I .i64,[.rd],none⟩] [(false,.I .i64)] x=Zdj x:=by kernel_rfl
def Yi1:=eG Tryz.func225 (by kernel_rfl) Yod
theorem Yoe x:fG [.gen Od,.gen Yi1,.see Zfg] [(9,.el .Y)] (.sq none .d (.sq none .d (.sq (some [.bx 0 [.K,.L (.I .i64),.L (.I .i64)],.ot 7
 .Y]) (.sq none .d (.bl (.lp [.bx 0 [.K,.L (.I .i64),.L (.I .i64)],.kt 1,.ot 7 .Y,.lt 8 (.I .i64)] .d))) .d))) Tryz.f196 [⟨true,false,txH,[.rx,.rd,.rd],(some txE)⟩,
 ⟨false,false,.I .i64,[.rd],none⟩,⟨false,false,.I .i64,[.rd],none⟩] [(false,.S)] x=Yy x:=by kernel_rfl
def Yi2:=eG Tryz.func196 (by kernel_rfl) Yoe
theorem Ync x:fX [.see Zuk] [(10,.el (.I .i64)),(26,.el (.I .i64)),(29,.el (.I .i64)),(30,.el (.I .i64))] (.sq none .d (.sq none .d (.sq none .d (.sq (some
 [.ot 4 (.I .i64)]) (.sq none .d (.bl (.lp [.ot 4 (.I .i64),.kt 5,.lt 6 (.I .i64)] .d))) .d)))) Tryz.f239 [(false,.S)] [(false,.L (.I .i64)),(false,.B)] x=Zc9 x :=
 by kernel_rfl
def Yic:=eS Tryz.func239 (by kernel_rfl) Ync
end
end Go.Vs
