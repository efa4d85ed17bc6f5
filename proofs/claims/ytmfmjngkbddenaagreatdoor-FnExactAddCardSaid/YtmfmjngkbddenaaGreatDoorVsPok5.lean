import Derived.Test.YtmfmjngkbddenaaGreatDoorProg
import Derived.Test.YtmfmjngkbddenaaGreatDoorVsPok4
set_option linter.all false
namespace Go.Vs
open Go.Proofs
set_option maxRecDepth 100000
noncomputable section
theorem Yjc x:fX [.see Zik,.see Zii,.see Yee,.see Zra,.gen Yef,.see Zq8] [(6,.el .Y),(8,.el .Y),(23,.el .Y),(24,.el
 .Y)] (.sq none .d (.sq none .d (.sq none .d (.sq none .d (.sq (some [.kt 3,.ot 5 .Y]) .d (.sq (some [.ot 5 .Y]) .d .d)))))) Tryz.f186 [(false,.L .Y),(true,txT)] [(false,.L
 .Y)] x=V4 x:=by kernel_rfl
def Yd8:=eS Tryz.func186 (by kernel_rfl) Yjc
theorem Yjn x:fX [] [] (.sq none .d (.sq none .d (.sq (some [.lt 3 (.I .i64)]) (.sq none .d (.bl (.lp [.kt 0,.lt 3 (.I .i64),.lt 4 (.I .i64)] (.sq none .d (.sq (some [.kt
 0,.lt 3 (.I .i64),.kt 4]) (.bl (.sq none .d (.sq none .d (.bl (.lp [.kt 0,.lt 3 (.I .i64),.kt 4,.lt 5 (.I .i64)] (.sq none .d (.sq (some [.kt 0,.lt 3 (.I .i64),.kt 4,.kt
 5]) .d .d))))))) .d))))) .d))) Tryz.f141 [(false,.L .Y)] [(false,.I .i64)] x=V7 x:=by kernel_rfl
def Zq0:=eS Tryz.func141 (by kernel_rfl) Yjn
theorem Yjb x:fX [.see Zqy,.see Zil,.see Zij,.see Yd8,.see Zii,.see Zq0] [(21,.el .Y),(22,.el .Y),(30,.el .Y),(31,.el .Y),
 (52,.el .Y),(53,.el .Y),(61,.el .Y),(62,.el .Y)] (.sq none .d (.sq none .d (.sq none .d (.sq (some [.kt 5,.ot 7 .Y]) .d .d)))) Tryz.f123 [(false,.I .i64),(false,.I
 .i64),(true,Cd)] [(false,.L .Y)] x=Sk x:=by kernel_rfl
def Zqw:=eS Tryz.func123 (by kernel_rfl) Yjb
theorem Yjq x:fG [] [] .d Tryz.f183 [⟨true,false,txP,[.rx,.rx,.rd,.rd],(some txB)⟩] [(false,.B)] x=So x:=by kernel_rfl
def Zq3:=eG Tryz.func183 (by kernel_rfl) Yjq
theorem Yjr x:fG [.see Fn,.gen Zq3] [(45,.el .Y),(47,.el .Y),(49,.el txC),(50,.el txC)] .d Tryz.f122 [⟨true,false,txP,[.rx,.ow,.rd,.rd],(some
 txL)⟩,⟨false,false,.I .i64,[.rd],none⟩,⟨false,false,.L .Y,[.rd],none⟩] [] x=K3 x:=by kernel_rfl
def Zq4:=eG Tryz.func122 (by kernel_rfl) Yjr
def Zv7:List GI:=[⟨(some 3),.rd (.mv (.t 0)),none⟩,
 ⟨(some 4),.rd (.nilc (.t 3)),none⟩,
 ⟨(some 5),.rd (.fad 3 (.t 4)),none⟩,
 ⟨(some 6),.rd (.load none (.t 5)),none⟩,
 ⟨(some 7),.rd (.mv (.t 6)),none⟩,
 ⟨(some 8),.rd (.mv (.t 0)),(some (7,false))⟩,
 ⟨(some 9),.wr (.call 183 [(.t 8)]),(some (7,false))⟩,
 ⟨(some 10),.rd (.un .not (.t 9)),(some (7,false))⟩,
 ⟨(some 11),.rd (.pick (.t 7) (.k (.a (.c (.lf (.bool true))))) (.t 10)),none⟩]
def Zv8:List GI:=[⟨(some 2),.rd (.mv (.k (.a (.c (.lf (.int .i64 0)))))),none⟩]
def Zv9:List GI:=[⟨(some 12),.rd (.mv (.t 2)),none⟩,
 ⟨(some 13),.rd (.mv (.t 0)),none⟩,
 ⟨(some 14),.rd (.nilc (.t 13)),none⟩,
 ⟨(some 15),.rd (.fad 1 (.t 14)),none⟩,
 ⟨(some 16),.rd (.load none (.t 15)),none⟩,
 ⟨(some 17),.rd (.len (.t 16)),none⟩,
 ⟨(some 18),.rd (.bin .lss (.t 12) (.t 17)),none⟩]
def Zwb:List DI:=[⟨⟨(some 21),.rd (.mv (.t 0)),none⟩,[],false,0,0⟩,
 ⟨⟨(some 22),.rd (.nilc (.t 21)),none⟩,[0],false,0,0⟩,
 ⟨⟨(some 23),.rd (.fad 0 (.t 22)),none⟩,[1,0],false,0,0⟩,
 ⟨⟨(some 24),.rd (.load none (.t 23)),none⟩,[2,1,0],false,0,0⟩,
 ⟨⟨(some 25),.rd (.mv (.t 0)),none⟩,[],false,0,0⟩,
 ⟨⟨(some 26),.rd (.nilc (.t 25)),none⟩,[4],false,0,0⟩,
 ⟨⟨(some 27),.rd (.fad 1 (.t 26)),none⟩,[5,4],false,0,0⟩,
 ⟨⟨(some 28),.rd (.load none (.t 27)),none⟩,[6,5,4],false,0,0⟩,
 ⟨⟨(some 29),.rd (.mv (.t 2)),none⟩,[],false,0,0⟩,
 ⟨⟨(some 30),.rd (.iad 2 (.t 28) (.t 29)),none⟩,[7,8,6,5,4],false,0,0⟩,
 ⟨⟨(some 31),.rd (.fad 0 (.t 30)),none⟩,[9,7,8,6,5,4],false,0,0⟩,
 ⟨⟨(some 32),.rd (.load none (.t 31)),none⟩,[10,9,7,8,6,5,4],false,0,0⟩,
 ⟨⟨(some 33),.rd (.mv (.t 0)),none⟩,[],false,0,0⟩,
 ⟨⟨(some 34),.rd (.nilc (.t 33)),none⟩,[12],false,0,0⟩,
 ⟨⟨(some 35),.rd (.fad 1 (.t 34)),none⟩,[13,12],false,0,0⟩,
 ⟨⟨(some 36),.rd (.load none (.t 35)),none⟩,[14,13,12],false,0,0⟩,
 ⟨⟨(some 37),.rd (.mv (.t 2)),none⟩,[],false,0,0⟩,
 ⟨⟨(some 38),.rd (.iad 2 (.t 36) (.t 37)),none⟩,[15,16,14,13,12],false,0,0⟩,
 ⟨⟨(some 39),.rd (.fad 1 (.t 38)),none⟩,[17,15,16,14,13,12],false,0,0⟩,
 ⟨⟨(some 40),.rd (.load none (.t 39)),none⟩,[18,17,15,16,14,13,12],false,0,0⟩,
 ⟨⟨(some 41),.rd (.iad 1 (.t 24) (.t 32)),none⟩,[3,11,19,2,1,0,10,9,7,8,6,5,4,18,17,15,16,14,13,12],false,0,0⟩,
 ⟨⟨none,.wr (.store 1 (.t 41) (.t 40)),none⟩,[20,3,11,19,2,1,0,10,9,7,8,6,5,4,18,17,15,16,14,13,12],true,0,0⟩]
def Zwa:List GI:=[⟨(some 19),.rd (.mv (.t 2)),none⟩,
 ⟨(some 20),.rd (.bin .add (.t 19) (.k (.a (.c (.lf (.int .i64 1)))))),none⟩,
 ⟨(some 2),.rd (.mv (.t 20)),none⟩]
def Zwc:List GI:=[⟨(some 42),.rd (.mv (.t 0)),none⟩,
 ⟨(some 43),.wr (.lit 2 0 [.lf (.int .i64 0),.nl 1] []),none⟩,
 ⟨(some 44),.rd (.nilc (.t 42)),none⟩,
 ⟨(some 45),.rd (.fad 1 (.t 44)),none⟩,
 ⟨none,.wr (.store 1 (.t 45) (.t 43)),none⟩]
def Zv6:Stm:=(.seq (.seq (.reg Zv7) (.cond (.t 11) .ret .skip)) (.seq (.seq (.reg Zv8) (.block 0 (.loop (.seq (.seq (.reg Zv9) (.cond (.t 18) .skip (.exit 0))) (.seq (.block 1 (.drw Zwb)) (.reg Zwa)))))) (.reg Zwc)))
theorem Yq6:(Tryz.f124.body.bind (trC Tryz.prog Tryz.f124.ntmps))=some Zv6:=by kernel_rfl
section
set_option maxHeartbeats 1000000
set_option maxRecDepth 4000
theorem Ynu (secs:List (List UInt8)) (cache:List Wr) (fuse:Int) (down:Bool) (hf:-1<=fuse/\fuse<=1000):Hq Tryz.prog 183 [.ptr [(.rx,.sl 1 (sD secs)),(.rx,.sl 2 (wD cache)),(.rd,.lf (.int .i64 fuse)),(.rd,.lf (.bool down))]] ⟨[(false,[.lf (.bool (opR fuse))])],[],[[.lf (.int .i64 (opF fuse)),.lf (.bool (opD fuse down))]]⟩ :=
 Zq3.ok (secs,(cache,(fuse,down))) (opR fuse,(opF fuse,opD fuse down)) (by
  show So (secs,(cache,(fuse,down)))=_;unfold So opR opF opD;simp only;by_cases h0:fuse=0
  ·subst h0;rfl
  have hb:(fuse==0)=false:=by simp [h0]
  rw[show iEq fuse 0=false from by simp [iEq,h0],show ∀x y:Option (Bool×(Int×Bool)),cnd false x y=y from fun _ _=>rfl];by_cases h1:0<fuse
  ·have e:A6 .i64 fuse 1=fuse-1:=Zy9 (by omega) (by omega);rw[show iGt fuse 0=true from by simp [iGt,h1],show ∀x y:Option (Bool×(Int×Bool)),cnd true x y=x from fun _ _=>rfl,e];simp [hb,h0,h1];rfl
  ·rw[show iGt fuse 0=false from by simp [iGt];omega,show ∀x y:Option (Bool×(Int×Bool)),cnd false x y=y from fun _ _=>rfl];simp [hb,h0,h1];rfl)
theorem Yn7 (secs:List (List UInt8)) (cache:List Wr) (fuse:Int) (down:Bool) (hf:-1<=fuse/\fuse<=1000) (hl:secs.length<2^40) (hm:cache.length<2^40) (hd:∀w∈cache,0<=w.1/\w.1<=(secs.length:Int)-1):Hq Tryz.prog 124 [.ptr [(.ow,.sl 1 (sD secs)),(.ow,.sl 2 (wD cache)),(.rd,.lf (.int .i64 fuse)),(.rd,.lf (.bool down))]] ⟨[],[],[[.sl 1 (sD (flC secs cache fuse down).1),.sl 2 (wD (flC secs cache fuse down).2.1),.lf (.int .i64 (flC secs cache fuse down).2.2.1),.lf (.bool (flC secs cache fuse down).2.2.2)]]⟩:=by
 obtain⟨c,hb,hs⟩:=Wv Yq6;refine Zl4 Tryz.func124 hb hs rfl (show 1<=46 by decide) ?_;clear hb hs c;simp only[Bh,B0,flat,Kya,Kfe,Arg.cells,Ks,Kp,Au,inC,Bs,Cr,Ov,Hw,inV,inB,Hz,Kg,Ki,Kgb,Kxa,Kjb,Kha,Ht,Kr,Kca,Kw,Nat.reduceAdd,Fi,Yrt];unfold Zv6;refine Np ?_;refine Np ?_;refine Yx ?_;unfold Zv7;refine Ct (Ia rfl) ?_
 first|refine Ct (Tl rfl) ?_|refine Ct (Tm rfl) ?_
 first|refine Ct (Oq rfl) ?_|refine Ct (Ot rfl) ?_
 try simp only[Kxa,Kgb,Kha,Kjb,Kp,Ks,Kw,Kg,Ki,Kr,Kca,Nat.reduceAdd,Nat.reduceMul,toC,Cc,Fl,Fi,rep,Ku,Kla]
 first|refine Ct (Qw rfl rfl rfl) ?_|refine Ct (Mv rfl rfl (rfl) rfl) ?_|refine Ct (Mw rfl rfl (rfl) rfl) ?_
 try simp only[Kxa,Kgb,Kha,Kjb,Kp,Ks,Kw,Kg,Ki,Kr,Kca,Nat.reduceAdd,Nat.reduceMul,toC,Cc,Fl,Fi,rep,Ku,Kla]
 refine Ct (Ia rfl) ?_;simp only[Vs.put,reduceIte,Nat.reduceEqDiff];refine Yng rfl (fun g7=>?_) (fun g7=>?_)
 ·try simp only[g7]
  try simp only[decide_eq_true_eq,decide_eq_false_iff_not,bne_iff_ne,beq_iff_eq,bne_eq_false_iff_eq,beq_eq_false_iff_ne,ne_eq,Kmd,Kte,gt_iff_lt,ge_iff_le,Kue,Kve,Kxb,Kwe,Ke,Knb,Kxe,Kye]at g7
  subst g7;refine Zk8 rfl (by decide) ?_;refine Zk8 rfl (by decide) ?_;refine Zk8 rfl (by decide) ?_;simp only[Vs.put,reduceIte,Nat.reduceEqDiff];refine Ct (Yfg rfl rfl) ?_;simp only[Dt,Ed,Fm,Vs.put,reduceIte,Nat.reduceEqDiff];refine Yw rfl (fun h1=>?_) (fun h1=>?_)
  ·try simp only[decide_eq_true_eq,decide_eq_false_iff_not,bne_iff_ne,beq_iff_eq,bne_eq_false_iff_eq,beq_eq_false_iff_ne,ne_eq,Kmd,Kte,gt_iff_lt,ge_iff_le,Kue,Kve,Kxb,Kwe,Ke,Knb,Kxe,Kye]at h1
   refine Zm5 ?_;simp only[Ed,Fm,Fh,ev,St.opd,Vs.get,reduceIte,Nat.reduceEqDiff,Ktb];rw[Zrz rfl];refine Zkh rfl rfl rfl ?_ rfl (U0 rfl (by simp) (U0 rfl (by simp) (U1 (U1 rfl)))) rfl rfl;exact I8 rfl (I8 rfl (I8 rfl (I8 rfl Zl2)))
  ·exact absurd h1 (by simp at h1)
 ·try simp only[g7]
  try simp only[decide_eq_true_eq,decide_eq_false_iff_not,bne_iff_ne,beq_iff_eq,bne_eq_false_iff_eq,beq_eq_false_iff_ne,ne_eq,Kmd,Kte,gt_iff_lt,ge_iff_le,Kue,Kve,Kxb,Kwe,Ke,Knb,Kxe,Kye]at g7
  subst g7;refine Zk7 rfl ?_;refine Ct (Ia rfl) ?_;simp only[Vs.put,reduceIte,Nat.reduceEqDiff];refine Zk7 rfl ?_;refine Ynf ?_;simp only[Kc,Ksb,St.opd,Vs.get,Vs.put,reduceIte,Nat.reduceEqDiff,Ktb];refine⟨_,_,Ynu secs cache fuse false hf,_,rfl,_,rfl,by simp [Bg,Bd],Zc8 (⟨rfl,.inl rfl,by simp [Bg,Bd],_,rfl,by simp,by first|rfl|(simp;done)|exact (Kob (by simp)).symm⟩) (Zc8 (⟨rfl,.inl rfl,by simp [Bg,Bd],_,rfl,by simp,by first|rfl|(simp;done)|exact (Kob (by simp)).symm⟩) (Zc8 (rfl) (Zc8 (rfl) (Ep)))),_,rfl,_,rfl, ?_⟩;simp only[Aq,Ft,Nb,Em,Kya,Kfe,Kgf,Kzc,Kw,Kp,Ks,Kg,Ki,Kjb,Kha,Kgb,Kxa,if_true,if_false,Kja,List.drop_nil,Hd,D0,Vs.put,reduceIte,Nat.reduceEqDiff,Kr,Nat.reduceAdd,Fl,Fi]
  try simp only[Bj,Vs.put,Cj,del,D4,reduceIte,Nat.reduceEqDiff,Nat.reduceAdd]
  refine Zk7 rfl ?_;refine Ct (Yfh rfl rfl) ?_;refine Ct (Yff rfl rfl) ?_;simp only[Dt,Ed,Fm,Vs.put,reduceIte,Nat.reduceEqDiff];refine Yw rfl (fun h1=>?_) (fun h1=>?_)
  ·have hz:fuse=0:=by simpa [opR] using h1
   obtain⟨z1,z2,_⟩:=Zeg (down:=false) hz;simp only[z1,z2];rw[Zr1 hz];refine Zm5 ?_;simp only[Ed,Fm,Fh,ev,St.opd,Vs.get,reduceIte,Nat.reduceEqDiff,Ktb];refine Zkh rfl rfl rfl ?_ rfl (U0 rfl (by simp) (U0 rfl (by simp) (U1 (U1 rfl)))) rfl rfl;exact I8 rfl (I8 rfl (I8 rfl (I8 rfl Zl2)))
  ·have hz:¬fuse=0:=by simpa [opR] using h1
   obtain⟨z2,_⟩:=Zef (down:=false) hz;simp only[z2];rw[Zr0 hz];refine Zm6 ?_;simp only[Ed,Fm];refine Np ?_;refine Np ?_;refine Yx ?_;unfold Zv8;refine Ct (Yfe) ?_;simp only[Dt,Ed,Fm,Vs.put,reduceIte,Nat.reduceEqDiff];refine Zm4 ?_;refine Yqa [0,2] (α:=Nat) (fun i=>[(2,.a (.c (.lf (.int .i64 (i:Nat)))))]) (fun i=>[(0,.bx [.rf 1 [] 1 0 secs.length,.rf 2 [] 2 0 cache.length,.lf (.int .i64 (opF fuse)),.lf (.bool false)]),(1,.tr 1 (sD (flL secs (cache.take i)))),(2,.tr 2 (wH cache i))]) (3) (fun i=>i<=cache.length) (fun i=>cache.length-i) (0) [(0,0),(1,1),(2,2)] ?_ (by decide) ?_ ?_ ?_
   ·exact Kpa _
   ·simp only[sel,Vs.get,upd,Vs.put,reduceIte,Nat.reduceEqDiff]
    repeat' (first|exact Zrn|refine Zro ?_|refine Zrm rfl ?_ ?_)
    all_goals (try simp only[V.map,A.map,C9,Vs.get,reduceIte,Nat.reduceEqDiff,Kc,Ksb])
    all_goals (try rfl)
   ·repeat' (first|exact Zvv|refine Uo 0 rfl rfl ?_ ?_|refine Uo 1 rfl rfl ?_ ?_|refine Uo 2 rfl rfl ?_ ?_)
    all_goals (try simp only[Pq,C9,Vs.get,reduceIte,Nat.reduceEqDiff,Kc,Ksb])
    all_goals (try rfl)
   ·rintro i hinv;simp only[sel,Vs.get,upd,Vs.put,reduceIte,Nat.reduceEqDiff];refine Np ?_;refine Np ?_;refine Yx ?_;unfold Zv9;refine Ct (Ia rfl) ?_;refine Ct (Ia rfl) ?_;simp only[Vs.put,reduceIte,Nat.reduceEqDiff]
    first|refine Ct (Tl rfl) ?_|refine Ct (Tm rfl) ?_
    first|refine Ct (Oq rfl) ?_|refine Ct (Ot rfl) ?_
    try simp only[Kxa,Kgb,Kha,Kjb,Kp,Ks,Kw,Kg,Ki,Kr,Kca,Nat.reduceAdd,Nat.reduceMul,toC,Cc,Fl,Fi,rep,Ku,Kla]
    first|refine Ct (Qw rfl rfl rfl) ?_|refine Ct (Mv rfl rfl (rfl) rfl) ?_|refine Ct (Mw rfl rfl (rfl) rfl) ?_
    try simp only[Kxa,Kgb,Kha,Kjb,Kp,Ks,Kw,Kg,Ki,Kr,Kca,Nat.reduceAdd,Nat.reduceMul,toC,Cc,Fl,Fi,rep,Ku,Kla]
    first|refine Ct (Yfd rfl) ?_|refine Ct (Yfc rfl) ?_
    refine Ct (Zrs rfl rfl rfl) ?_;simp only[Vs.put,reduceIte,Nat.reduceEqDiff];simp only[Dt,Ed,Fm,Vs.put,reduceIte,Nat.reduceEqDiff];refine Yw rfl (fun h4=>?_) (fun h4=>?_)
    ·try simp only[decide_eq_true_eq,decide_eq_false_iff_not,bne_iff_ne,beq_iff_eq,bne_eq_false_iff_eq,beq_eq_false_iff_ne,ne_eq,Kmd,Kte,gt_iff_lt,ge_iff_le,Kue,Kve,Kxb,Kwe,Ke,Knb,Kxe,Kye]at h4
     have hib:i<cache.length:=by omega
     have e1:IntKind.i64.wrap ((i:Int)+1)=((i+1:Nat):Int):=by rw[Zy9 (by omega) (by omega)];rfl
     have hdi:=hd _ (Khb hib);obtain⟨k,hk⟩:∃k:Nat,cache[i].1=k:=⟨cache[i].1.toNat,by omega⟩;have hkl:k<secs.length:=by omega
     have him:k<(flL secs (cache.take i)).length:=by rw[Zr3];exact hkl
     refine Zm6 ?_;simp only[Ed,Fm];refine Np ?_;refine Zm4 ?_;refine Zxk rfl rfl ?_;unfold Zwb;refine D1 (Ia rfl) rfl ?_
     first|refine D1 (Tl rfl) rfl ?_|refine D1 (Tm rfl) rfl ?_
     first|refine D1 (Oq rfl) rfl ?_|refine D1 (Ot rfl) rfl ?_
     try simp only[Kxa,Kgb,Kha,Kjb,Kp,Ks,Kw,Kg,Ki,Kr,Kca,Nat.reduceAdd,Nat.reduceMul,toC,Cc,Fl,Fi,rep,Ku,Kla]
     first|refine Ff (Qw rfl rfl rfl) Ep (Kqb.2 (Kba rfl)) ?_|refine Ff (Mv rfl rfl (rfl) rfl) Ep (Kqb.2 (Kba rfl)) ?_|refine Ff (Mw rfl rfl (rfl) rfl) Ep (Kqb.2 (Kba rfl)) ?_
     try simp only[Kxa,Kgb,Kha,Kjb,Kp,Ks,Kw,Kg,Ki,Kr,Kca,Nat.reduceAdd,Nat.reduceMul,toC,Cc,Fl,Fi,rep,Ku,Kla]
     refine D1 (Ia rfl) rfl ?_;simp only[Vs.put,reduceIte,Nat.reduceEqDiff]
     first|refine D1 (Tl rfl) rfl ?_|refine D1 (Tm rfl) rfl ?_
     first|refine D1 (Oq rfl) rfl ?_|refine D1 (Ot rfl) rfl ?_
     try simp only[Kxa,Kgb,Kha,Kjb,Kp,Ks,Kw,Kg,Ki,Kr,Kca,Nat.reduceAdd,Nat.reduceMul,toC,Cc,Fl,Fi,rep,Ku,Kla]
     first|refine Ff (Qw rfl rfl rfl) Ep (Kqb.2 (Kba rfl)) ?_|refine Ff (Mv rfl rfl (rfl) rfl) Ep (Kqb.2 (Kba rfl)) ?_|refine Ff (Mw rfl rfl (rfl) rfl) Ep (Kqb.2 (Kba rfl)) ?_
     try simp only[Kxa,Kgb,Kha,Kjb,Kp,Ks,Kw,Kg,Ki,Kr,Kca,Nat.reduceAdd,Nat.reduceMul,toC,Cc,Fl,Fi,rep,Ku,Kla]
     refine D1 (Ia rfl) rfl ?_;refine D1 (Ziv rfl rfl rfl (by omega)) rfl ?_;simp only[Vs.put,reduceIte,Nat.reduceEqDiff]
     first|refine D1 (Oq rfl) rfl ?_|refine D1 (Ot rfl) rfl ?_
     try simp only[Kxa,Kgb,Kha,Kjb,Kp,Ks,Kw,Kg,Ki,Kr,Kca,Nat.reduceAdd,Nat.reduceMul,toC,Cc,Fl,Fi,rep,Ku,Kla]
     first|refine Ff (Qw rfl rfl rfl) Ep (Kqb.2 (Kba rfl)) ?_|refine Ff (Mv rfl rfl (Vb hib) rfl) Ep (Kqb.2 (Kba rfl)) ?_|refine Ff (Mw rfl rfl (Vb hib) rfl) Ep (Kqb.2 (Kba rfl)) ?_|refine Ff (Mv rfl rfl (rfl) rfl) Ep (Kqb.2 (Kba rfl)) ?_|refine Ff (Mw rfl rfl (rfl) rfl) Ep (Kqb.2 (Kba rfl)) ?_
     try simp only[Kxa,Kgb,Kha,Kjb,Kp,Ks,Kw,Kg,Ki,Kr,Kca,Nat.reduceAdd,Nat.reduceMul,toC,Cc,Fl,Fi,rep,Ku,Kla]
     refine D1 (Ia rfl) rfl ?_
     first|refine D1 (Tl rfl) rfl ?_|refine D1 (Tm rfl) rfl ?_
     first|refine D1 (Oq rfl) rfl ?_|refine D1 (Ot rfl) rfl ?_
     try simp only[Kxa,Kgb,Kha,Kjb,Kp,Ks,Kw,Kg,Ki,Kr,Kca,Nat.reduceAdd,Nat.reduceMul,toC,Cc,Fl,Fi,rep,Ku,Kla]
     simp only[Vs.put,reduceIte,Nat.reduceEqDiff]
     first|refine Ff (Qw rfl rfl rfl) Ep (Kqb.2 (Kba rfl)) ?_|refine Ff (Mv rfl rfl (rfl) rfl) Ep (Kqb.2 (Kba rfl)) ?_|refine Ff (Mw rfl rfl (rfl) rfl) Ep (Kqb.2 (Kba rfl)) ?_
     try simp only[Kxa,Kgb,Kha,Kjb,Kp,Ks,Kw,Kg,Ki,Kr,Kca,Nat.reduceAdd,Nat.reduceMul,toC,Cc,Fl,Fi,rep,Ku,Kla]
     refine D1 (Ia rfl) rfl ?_;refine D1 (Ziv rfl rfl rfl (by omega)) rfl ?_
     first|refine D1 (Oq rfl) rfl ?_|refine D1 (Ot rfl) rfl ?_
     try simp only[Kxa,Kgb,Kha,Kjb,Kp,Ks,Kw,Kg,Ki,Kr,Kca,Nat.reduceAdd,Nat.reduceMul,toC,Cc,Fl,Fi,rep,Ku,Kla]
     first|refine Ff (Qw rfl rfl rfl) Ep (Kqb.2 (Kba rfl)) ?_|refine Ff (Mv rfl rfl (Vb hib) rfl) Ep (Kqb.2 (Kba rfl)) ?_|refine Ff (Mw rfl rfl (Vb hib) rfl) Ep (Kqb.2 (Kba rfl)) ?_|refine Ff (Mv rfl rfl (rfl) rfl) Ep (Kqb.2 (Kba rfl)) ?_|refine Ff (Mw rfl rfl (rfl) rfl) Ep (Kqb.2 (Kba rfl)) ?_
     try simp only[Kxa,Kgb,Kha,Kjb,Kp,Ks,Kw,Kg,Ki,Kr,Kca,Nat.reduceAdd,Nat.reduceMul,toC,Cc,Fl,Fi,rep,Ku,Kla]
     refine D1 (Ziv (j:=k) rfl rfl hk (by omega)) rfl ?_;simp only[Vs.put,reduceIte,Nat.reduceEqDiff];refine Ynw (by intros;nofun) ?_;refine Ypw rfl rfl rfl rfl (Vb hib) rfl (by simp) (by decide) rfl (Zwd him) (by simp) (Kba rfl) ?_;simp only[Rc,Root.map,Kc,Ksb,del,reduceIte,Nat.reduceEqDiff,Kp,Vs.put,D8];rw[Yof _ k cache[i].2 him,Yru hib,<-Zr5 hib hk];simp only[Bj,Cj,V.map,A.map,D8,Zu4,and_false,if_false,Kc,Ksb,Vs.put,reduceIte,Nat.reduceEqDiff];refine⟨Ep,.inr ⟨by first|rfl|trivial,by first|rfl|decide, ?_⟩⟩
     try simp only[Bj,Cj,V.map,A.map,A8,D8,Zu4,and_false,if_false,Kc,Ksb,Vs.put,reduceIte,Nat.reduceEqDiff,List.isPrefixOf,Kre,Kjd,Kja]
     try simp only[Bj,Vs.put,Cj,del,D4,reduceIte,Nat.reduceEqDiff,Nat.reduceAdd]
     try refine Ynv ?_
     simp only[Ed,Fm,Vs.put,reduceIte,Nat.reduceEqDiff];refine Yx ?_;unfold Zwa;refine Ct (Ia rfl) ?_;refine Ct (Zrs rfl rfl rfl) ?_;refine Ct (Ia rfl) ?_;simp only[Dt,Ed,Fm,Vs.put,reduceIte,Nat.reduceEqDiff]
     try simp only[Ed,Fm]
     refine⟨i+1, ?_, ?_,rfl,[(0,0),(1,1),(2,2)],by decide, ?_, ?_⟩
     ·omega
     ·first|omega|(dsimp only;omega)
     ·simp only[sel,Vs.get,upd,Vs.put,reduceIte,Nat.reduceEqDiff]
      repeat' (first|exact Zrn|refine Zro ?_|refine Zrm rfl ?_ ?_)
      all_goals (try simp only[V.map,A.map,C9,Vs.get,reduceIte,Nat.reduceEqDiff,Kc,Ksb,e1])
     ·repeat' (first|exact Zvv|refine Uo 0 rfl rfl ?_ ?_|refine Uo 1 rfl rfl ?_ ?_|refine Uo 2 rfl rfl ?_ ?_)
      all_goals (try simp only[Pq,C9,Vs.get,reduceIte,Nat.reduceEqDiff,Kc,Ksb,e1])
    ·try simp only[decide_eq_true_eq,decide_eq_false_iff_not,bne_iff_ne,beq_iff_eq,bne_eq_false_iff_eq,beq_eq_false_iff_ne,ne_eq,Kmd,Kte,gt_iff_lt,ge_iff_le,Kue,Kve,Kxb,Kwe,Ke,Knb,Kxe,Kye]at h4
     have hib:i=cache.length:=by omega
     subst hib;simp only[Khc];refine Zxj ?_;simp only[Ed,Fm,if_true,Nat.reduceEqDiff,if_false,reduceIte];refine Yx ?_;unfold Zwc;refine Ct (Ia rfl) ?_;simp only[Vs.put,reduceIte,Nat.reduceEqDiff];refine Zur (by intros;nofun) ?_;refine .inl ⟨_,rfl,_,rfl, ?_⟩;simp only[Eh,Kxa,Kgb,Kha,Kjb,Kp,Ks,Kw,Kg,Ki,Kr,Kca,Nat.reduceAdd,Nat.reduceMul,toC,Cc,Fl,Fi,rep,Ku,Kla]
     try simp only[Bj,Vs.put,Cj,del,D4,reduceIte,Nat.reduceEqDiff,Nat.reduceAdd]
     first|refine Ct (Tl rfl) ?_|refine Ct (Tm rfl) ?_
     first|refine Ct (Oq rfl) ?_|refine Ct (Ot rfl) ?_
     try simp only[Kxa,Kgb,Kha,Kjb,Kp,Ks,Kw,Kg,Ki,Kr,Kca,Nat.reduceAdd,Nat.reduceMul,toC,Cc,Fl,Fi,rep,Ku,Kla]
     refine Zur (by intros;nofun) ?_;refine Ypv rfl rfl rfl rfl (Kba rfl) ?_;simp only[Kxa,Kgb,Kha,Kjb,Kp,Ks,Kw,Kg,Ki,Kr,Kca,Nat.reduceAdd,Nat.reduceMul,toC,Cc,Fl,Fi,rep,Ku,Kla]
     try simp only[Bj,Vs.put,Cj,del,D4,reduceIte,Nat.reduceEqDiff,Nat.reduceAdd]
     simp only[Dt,Ed,Fm,Vs.put,reduceIte,Nat.reduceEqDiff];simp only[Ed,Fm,Fh,ev,St.opd,Vs.get,reduceIte,Nat.reduceEqDiff,Ktb];refine Zkh rfl rfl rfl ?_ rfl (U0 rfl (by simp) (U0 rfl (by simp) (U1 (U1 rfl)))) rfl rfl;exact I8 rfl (I8 rfl (I8 rfl (I8 rfl Zl2)))
end
noncomputable def Zq2:GEnt Tryz.prog:=⟨124,[⟨true,false,txP,[.ow,.ow,.rd,.rd],(some txP)⟩],[],Jg,fun x y hy=>by
 unfold Jg at hy;obtain⟨h,hy⟩:=C5 hy;have h:=of_decide_eq_true h;have hy:=Option.some.inj hy;subst hy;exact Yn7 x.1 x.2.1 x.2.2.1 x.2.2.2 h.1 h.2.1 h.2.2.1 h.2.2.2⟩
theorem Yi8 x:fX [.see Fn,.see Zij,.see Zq0] [(14,.el .Y),(15,.el .Y)] .d Tryz.f174 [(false,.I .i64),(false,.I .i64)] [(false,.L .Y)] x =
 Zaz x:=by kernel_rfl
def Yd6:=eS Tryz.func174 (by kernel_rfl) Yi8
theorem Yj3 x:fG [.see Yd9,.see Zq6,.see Zqw,.gen Zq4,.gen Zq2,.see Yd6] [] (.sq none .d (.sq (some [.bx 0 [.K,.O txC,
 .L (.I .i64),.L .B,.K,.K,.K,.K,.K],.kt 1,.kt 4]) (.sq none .d (.bl (.lp [.bx 0 [.K,.O txC,.L (.I .i64),.L .B,.K,.K,.K,.K,.K],.kt 1,.kt 4,.lt 5 (.I .i64)] .d)))
 .d)) Tryz.f102 [⟨true,false,Ef,[.ow,.ow,.rd,.rd,.rx,.rd,.rx,.rd,.rd],(some (.P txA (.P txF (.P (.I .i64) (.P .B txH)))))⟩,⟨false,false,.I .i64,[.rd],none⟩] []
 x=Ss x:=by kernel_rfl
def Yen:=eG Tryz.func102 (by kernel_rfl) Yj3
theorem Yj0 x:fG [.see Yd0,.gen Yen,.see Zq6,.see Zqw,.gen Zq4,.gen Zq2] [] (.sq none .d (.sq none .d (.sq none .d (.sq
 (some [.bx 0 [.O (.L .Y),.O txC,.L (.I .i64),.L .B,.K,.L (.I .i64),.K,.L (.I .i64),.L (.I .i64)],.kt 3,.kt 5]) .d .d)))) Tryz.f52 [⟨true,false,Ef,[.ow,.ow,.rd,
 .rd,.ow,.rd,.ow,.rd,.rd],(some Ef)⟩,⟨false,true,Cd,[.rd,.rd,.rd,.rd,.rd,.rd,.rd,.rd,.rd,.rd,.rd,.rd,.rd],none⟩] [(false,.B)] x=Wb x:=by
 kernel_rfl
def Yel:=eG Tryz.func52 (by kernel_rfl) Yj0
theorem Yiz x:fX [.see Yem,.see Yec,.gen Yel] [] .d Tryz.f11 [(true,Ef),(true,Cd)] [(true,Ef),(false,.B)] x=Zau x:=by kernel_rfl
def Ydz:=eS Tryz.func11 (by kernel_rfl) Yiz
theorem Yg0 x:fX [] [(6,.el .Y),(15,.el .Y)] (.sq none .d (.sq none .d (.sq (some [.ot 3 .Y]) (.sq none .d (.bl (.lp [.ot 3 .Y,.kt 7,.kt 8,.lt 9 (.I .i64)] .d)))
 .d))) Tryz.f117 [(false,txA)] [(false,.L .Y)] x=Gg x:=by kernel_rfl
def Om:=eS Tryz.func117 (by kernel_rfl) Yg0
theorem Ygt x:fX [.see Om] [(23,.sb),(25,.el (.L .Y)),(26,.el (.L .Y)),(42,.sb),(45,.el txC),(46,.el txC)] (.sq none .d (.sq none .d (.sq (some [.kt 1,
 .kt 2,.bx 3 [.O (.L .Y),.K,.K,.K]]) (.sq none .d (.bl (.lp [.kt 1,.kt 2,.bx 3 [.O (.L .Y),.K,.K,.K],.kt 14,.kt 15,.lt 16 (.I .i64)] .d))) (.sq (some [.kt 2,.bx 3
 [.K,.O txC,.K,.K]]) (.sq none .d (.bl (.lp [.kt 2,.bx 3 [.K,.O txC,.K,.K],.kt 30,.kt 31,.lt 32 (.I .i64)] .d))) .d)))) Tryz.f72 [(true,txP)] [(true,txP)] x =
 N2 x:=by kernel_rfl
def Zib:=eS Tryz.func72 (by kernel_rfl) Ygt
theorem Ygs x:fX [.see Om] [(7,.sb)] .d Tryz.f208 [(true,txC)] [(true,txC)] x=Vp x:=by kernel_rfl
def Ycb:=eS Tryz.func208 (by kernel_rfl) Ygs
theorem Ygu x:fX [.see Ycb] [] .d Tryz.f168 [(true,txT)] [(true,txT)] x=N3 x:=by kernel_rfl
def Zic:=eS Tryz.func168 (by kernel_rfl) Ygu
end
end Go.Vs
