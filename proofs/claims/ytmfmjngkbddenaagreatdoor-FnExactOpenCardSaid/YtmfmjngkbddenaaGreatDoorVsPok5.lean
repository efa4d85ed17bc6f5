import Derived.Test.YtmfmjngkbddenaaGreatDoorProg
import Derived.Test.YtmfmjngkbddenaaGreatDoorVsPok4
set_option linter.all false
namespace Go.Vs
open Go.Proofs
set_option maxRecDepth 100000
noncomputable section
theorem Ymk x:fX [.see Zk4,.see Zk1,.see Yhq,.see Zk9,.gen Yhr,.see Zk8] [(6,.el .Y),(8,.el .Y),(23,.el .Y),(24,.el
 .Y)] (.sq none .d (.sq none .d (.sq none .d (.sq none .d (.sq (some [.kt 3,.ot 5 .Y]) .d (.sq (some [.ot 5 .Y]) .d .d)))))) Tryz.f186 [(false,.L .Y),(true,txT)] [(false,.L
 .Y)] x=Xp x:=by kernel_rfl
def Yhj:=eS Tryz.func186 (by kernel_rfl) Ymk
theorem Ymw x:fX [] [] (.sq none .d (.sq none .d (.sq (some [.lt 3 (.I .i64)]) (.sq none .d (.bl (.lp [.kt 0,.lt 3 (.I .i64),.lt 4 (.I .i64)] (.sq none .d (.sq (some [.kt
 0,.lt 3 (.I .i64),.kt 4]) (.bl (.sq none .d (.sq none .d (.bl (.lp [.kt 0,.lt 3 (.I .i64),.kt 4,.lt 5 (.I .i64)] (.sq none .d (.sq (some [.kt 0,.lt 3 (.I .i64),.kt 4,.kt
 5]) .d .d))))))) .d))))) .d))) Tryz.f141 [(false,.L .Y)] [(false,.I .i64)] x=Pg x:=by kernel_rfl
def Zes:=eS Tryz.func141 (by kernel_rfl) Ymw
theorem Ymj x:fX [.see Zk3,.see Zk6,.see Zk2,.see Yhj,.see Zk1,.see Zes] [(21,.el .Y),(22,.el .Y),(30,.el .Y),(31,.el .Y),
 (52,.el .Y),(53,.el .Y),(61,.el .Y),(62,.el .Y)] (.sq none .d (.sq none .d (.sq none .d (.sq (some [.kt 5,.ot 7 .Y]) .d .d)))) Tryz.f123 [(false,.I .i64),(false,.I
 .i64),(true,Dn)] [(false,.L .Y)] x=Zcr x:=by kernel_rfl
def Yhi:=eS Tryz.func123 (by kernel_rfl) Ymj
theorem Ymz x:fG [] [] .d Tryz.f183 [⟨true,false,txP,[.rx,.rx,.rd,.rd],(some txB)⟩] [(false,.B)] x=Ue x:=by kernel_rfl
def Ztn:=eG Tryz.func183 (by kernel_rfl) Ymz
theorem Ym0 x:fG [.see Ez,.gen Ztn] [(45,.el .Y),(47,.el .Y),(49,.el txC),(50,.el txC)] .d Tryz.f122 [⟨true,false,txP,[.rx,.ow,.rd,.rd],(some
 txL)⟩,⟨false,false,.I .i64,[.rd],none⟩,⟨false,false,.L .Y,[.rd],none⟩] [] x=Ph x:=by kernel_rfl
def Yhp:=eG Tryz.func122 (by kernel_rfl) Ym0
def Zy3:List GI:=[⟨(some 3),.rd (.mv (.t 0)),none⟩,
 ⟨(some 4),.rd (.nilc (.t 3)),none⟩,
 ⟨(some 5),.rd (.fad 3 (.t 4)),none⟩,
 ⟨(some 6),.rd (.load none (.t 5)),none⟩,
 ⟨(some 7),.rd (.mv (.t 6)),none⟩,
 ⟨(some 8),.rd (.mv (.t 0)),(some (7,false))⟩,
 ⟨(some 9),.wr (.call 183 [(.t 8)]),(some (7,false))⟩,
 ⟨(some 10),.rd (.un .not (.t 9)),(some (7,false))⟩,
 ⟨(some 11),.rd (.pick (.t 7) (.k (.a (.c (.lf (.bool true))))) (.t 10)),none⟩]
def Zy4:List GI:=[⟨(some 2),.rd (.mv (.k (.a (.c (.lf (.int .i64 0)))))),none⟩]
def Zy5:List GI:=[⟨(some 12),.rd (.mv (.t 2)),none⟩,
 ⟨(some 13),.rd (.mv (.t 0)),none⟩,
 ⟨(some 14),.rd (.nilc (.t 13)),none⟩,
 ⟨(some 15),.rd (.fad 1 (.t 14)),none⟩,
 ⟨(some 16),.rd (.load none (.t 15)),none⟩,
 ⟨(some 17),.rd (.len (.t 16)),none⟩,
 ⟨(some 18),.rd (.bin .lss (.t 12) (.t 17)),none⟩]
def Zy7:List DI:=[⟨⟨(some 21),.rd (.mv (.t 0)),none⟩,[],false,0,0⟩,
 ⟨⟨(some 22),.rd (.nilc (.t 21)),none⟩,[0],false,0,0⟩,
 ⟨⟨(some 23),.rd (.fad 0 (.t 22)),none⟩,[1,0],false,0,0⟩,
 ⟨⟨(some 24),.rd (.load none (.t 23)),none⟩,[2,1,0],false,0,0⟩,
 ⟨⟨(some 25),.rd (.mv (.t 0)),none⟩,[],false,0,0⟩,
 ⟨⟨(some 26),.rd (.nilc (.t 25)),none⟩,[4],false,0,0⟩,
 ⟨⟨(some 27),.rd (.fad 1 (.t 26)),none⟩,[5,4],false,0,0⟩,
 ⟨⟨(some 28),.rd (.load none (.t 27)),none⟩,[6,5,4],false,0,0⟩,
 ⟨⟨(some 29),.rd (.mv (.t 2)),none⟩,[],false,0,0⟩,
 ⟨⟨(some 30),.rd (.iad 2 (.t 28) (.t 29)),none⟩,[7,8,6,5,4],false,0,0⟩,
 ⟨⟨(some 31),.rd (.fad 0 (.t 30)),none⟩,[9,7,8,6,5,4],false,0,0⟩,
 ⟨⟨(some 32),.rd (.load none (.t 31)),none⟩,[10,9,7,8,6,5,4],false,0,0⟩,
 ⟨⟨(some 33),.rd (.mv (.t 0)),none⟩,[],false,0,0⟩,
 ⟨⟨(some 34),.rd (.nilc (.t 33)),none⟩,[12],false,0,0⟩,
 ⟨⟨(some 35),.rd (.fad 1 (.t 34)),none⟩,[13,12],false,0,0⟩,
 ⟨⟨(some 36),.rd (.load none (.t 35)),none⟩,[14,13,12],false,0,0⟩,
 ⟨⟨(some 37),.rd (.mv (.t 2)),none⟩,[],false,0,0⟩,
 ⟨⟨(some 38),.rd (.iad 2 (.t 36) (.t 37)),none⟩,[15,16,14,13,12],false,0,0⟩,
 ⟨⟨(some 39),.rd (.fad 1 (.t 38)),none⟩,[17,15,16,14,13,12],false,0,0⟩,
 ⟨⟨(some 40),.rd (.load none (.t 39)),none⟩,[18,17,15,16,14,13,12],false,0,0⟩,
 ⟨⟨(some 41),.rd (.iad 1 (.t 24) (.t 32)),none⟩,[3,11,19,2,1,0,10,9,7,8,6,5,4,18,17,15,16,14,13,12],false,0,0⟩,
 ⟨⟨none,.wr (.store 1 (.t 41) (.t 40)),none⟩,[20,3,11,19,2,1,0,10,9,7,8,6,5,4,18,17,15,16,14,13,12],true,0,0⟩]
def Zy6:List GI:=[⟨(some 19),.rd (.mv (.t 2)),none⟩,
 ⟨(some 20),.rd (.bin .add (.t 19) (.k (.a (.c (.lf (.int .i64 1)))))),none⟩,
 ⟨(some 2),.rd (.mv (.t 20)),none⟩]
def Zy8:List GI:=[⟨(some 42),.rd (.mv (.t 0)),none⟩,
 ⟨(some 43),.wr (.lit 2 0 [.lf (.int .i64 0),.nl 1] []),none⟩,
 ⟨(some 44),.rd (.nilc (.t 42)),none⟩,
 ⟨(some 45),.rd (.fad 1 (.t 44)),none⟩,
 ⟨none,.wr (.store 1 (.t 45) (.t 43)),none⟩]
def Zy2:Stm:=(.seq (.seq (.reg Zy3) (.cond (.t 11) .ret .skip)) (.seq (.seq (.reg Zy4) (.block 0 (.loop (.seq (.seq (.reg Zy5) (.cond (.t 18) .skip (.exit 0))) (.seq (.block 1 (.drw Zy7)) (.reg Zy6)))))) (.reg Zy8)))
theorem Yuv:(Tryz.f124.body.bind (trC Tryz.prog Tryz.f124.ntmps))=some Zy2:=by kernel_rfl
section
set_option maxHeartbeats 1000000
set_option maxRecDepth 4000
theorem Yrg (secs:List (List UInt8)) (cache:List Wr) (fuse:Int) (down:Bool) (hf:-1<=fuse/\fuse<=1000):Gd Tryz.prog 183 [.ptr [(.rx,.sl 1 (sD secs)),(.rx,.sl 2 (wD cache)),(.rd,.lf (.int .i64 fuse)),(.rd,.lf (.bool down))]] ⟨[(false,[.lf (.bool (opR fuse))])],[],[[.lf (.int .i64 (opF fuse)),.lf (.bool (opD fuse down))]]⟩ :=
 Ztn.ok (secs,(cache,(fuse,down))) (opR fuse,(opF fuse,opD fuse down)) (by
  show Ue (secs,(cache,(fuse,down)))=_;unfold Ue opR opF opD;simp only;by_cases h0:fuse=0
  ·subst h0;rfl
  have hb:(fuse==0)=false:=by simp [h0]
  rw[show iEq fuse 0=false from by simp [iEq,h0],show ∀x y:Option (Bool×(Int×Bool)),cnd false x y=y from fun _ _=>rfl];by_cases h1:0<fuse
  ·have e:A1 .i64 fuse 1=fuse-1:=Zib (by omega) (by omega);rw[show iGt fuse 0=true from by simp [iGt,h1],show ∀x y:Option (Bool×(Int×Bool)),cnd true x y=x from fun _ _=>rfl,e];simp [hb,h0,h1];rfl
  ·rw[show iGt fuse 0=false from by simp [iGt];omega,show ∀x y:Option (Bool×(Int×Bool)),cnd false x y=y from fun _ _=>rfl];simp [hb,h0,h1];rfl)
theorem Yr0 (secs:List (List UInt8)) (cache:List Wr) (fuse:Int) (down:Bool) (hf:-1<=fuse/\fuse<=1000) (hl:secs.length<2^40) (hm:cache.length<2^40) (hd:∀w∈cache,0<=w.1/\w.1<=(secs.length:Int)-1):Gd Tryz.prog 124 [.ptr [(.ow,.sl 1 (sD secs)),(.ow,.sl 2 (wD cache)),(.rd,.lf (.int .i64 fuse)),(.rd,.lf (.bool down))]] ⟨[],[],[[.sl 1 (sD (flC secs cache fuse down).1),.sl 2 (wD (flC secs cache fuse down).2.1),.lf (.int .i64 (flC secs cache fuse down).2.2.1),.lf (.bool (flC secs cache fuse down).2.2.2)]]⟩:=by
 obtain⟨c,hb,hs⟩:=Us Yuv;refine Zg1 Tryz.func124 hb hs rfl (show 1<=46 by decide) ?_;clear hb hs c;simp only[Bl,B4,flat,Kya,Kqd,Arg.cells,Kl,Kj,Ay,inC,Bz,C4,N1,H1,inV,inB,H7,Ke,Ki,Kda,Kba,Kha,Kv,Hu,Km,Kw,Kq,Nat.reduceAdd,Cj,Ycf];unfold Zy2;refine E5 ?_;refine E5 ?_;refine Gr ?_;unfold Zy3;refine Ap (Dj rfl) ?_
 first|refine Ap (U4 rfl) ?_|refine Ap (U5 rfl) ?_
 first|refine Ap (Hv rfl) ?_|refine Ap (Hw rfl) ?_
 try simp only[Kba,Kda,Kv,Kha,Kj,Kl,Kq,Ke,Ki,Km,Kw,Nat.reduceAdd,Nat.reduceMul,toC,Bk,Cf,Cj,rep,Kp,Ky]
 first|refine Ap (Hx rfl rfl rfl) ?_|refine Ap (Fg rfl rfl (rfl) rfl) ?_|refine Ap (Fh rfl rfl (rfl) rfl) ?_
 try simp only[Kba,Kda,Kv,Kha,Kj,Kl,Kq,Ke,Ki,Km,Kw,Nat.reduceAdd,Nat.reduceMul,toC,Bk,Cf,Cj,rep,Kp,Ky]
 refine Ap (Dj rfl) ?_;simp only[Vs.put,reduceIte,Nat.reduceEqDiff];refine Zxd rfl (fun g7=>?_) (fun g7=>?_)
 ·try simp only[g7]
  try simp only[decide_eq_true_eq,decide_eq_false_iff_not,bne_iff_ne,beq_iff_eq,bne_eq_false_iff_eq,beq_eq_false_iff_ne,ne_eq,Kbc,Kic,gt_iff_lt,ge_iff_le,Kjc,Kkc,Kjb,Klc,Kd,Kbb,Kmc,Knc]at g7
  subst g7;refine Ms rfl (by decide) ?_;refine Ms rfl (by decide) ?_;refine Ms rfl (by decide) ?_;simp only[Vs.put,reduceIte,Nat.reduceEqDiff];refine Ap (Zt6 rfl rfl) ?_;simp only[Cn,B6,Cg,Vs.put,reduceIte,Nat.reduceEqDiff];refine Ox rfl (fun h1=>?_) (fun h1=>?_)
  ·try simp only[decide_eq_true_eq,decide_eq_false_iff_not,bne_iff_ne,beq_iff_eq,bne_eq_false_iff_eq,beq_eq_false_iff_ne,ne_eq,Kbc,Kic,gt_iff_lt,ge_iff_le,Kjc,Kkc,Kjb,Klc,Kd,Kbb,Kmc,Knc]at h1
   refine Ti ?_;simp only[B6,Cg,Ew,ev,St.opd,Vs.get,reduceIte,Nat.reduceEqDiff,Klb];rw[Zuf rfl];refine Zm4 rfl rfl rfl ?_ rfl (Wm rfl (by simp) (Wm rfl (by simp) (Wn (Wn rfl)))) rfl rfl;exact J3 rfl (J3 rfl (J3 rfl (J3 rfl Zoj)))
  ·exact absurd h1 (by simp at h1)
 ·try simp only[g7]
  try simp only[decide_eq_true_eq,decide_eq_false_iff_not,bne_iff_ne,beq_iff_eq,bne_eq_false_iff_eq,beq_eq_false_iff_ne,ne_eq,Kbc,Kic,gt_iff_lt,ge_iff_le,Kjc,Kkc,Kjb,Klc,Kd,Kbb,Kmc,Knc]at g7
  subst g7;refine Mr rfl ?_;refine Ap (Dj rfl) ?_;simp only[Vs.put,reduceIte,Nat.reduceEqDiff];refine Mr rfl ?_;refine Zns ?_;simp only[Kc,Khb,St.opd,Vs.get,Vs.put,reduceIte,Nat.reduceEqDiff,Klb];refine⟨_,_,Yrg secs cache fuse false hf,_,rfl,_,rfl,by simp [Bi,Bb],Lh (⟨rfl,.inl rfl,by simp [Bi,Bb],_,rfl,by simp,by first|rfl|(simp;done)|exact (Kob (by simp)).symm⟩) (Lh (⟨rfl,.inl rfl,by simp [Bi,Bb],_,rfl,by simp,by first|rfl|(simp;done)|exact (Kob (by simp)).symm⟩) (Lh (rfl) (Lh (rfl) (Em)))),_,rfl,_,rfl, ?_⟩;simp only[Au,Fi,Ln,Ej,Kya,Kqd,Kyd,Kwc,Kq,Kj,Kl,Ke,Ki,Kha,Kv,Kda,Kba,if_true,if_false,Kma,List.drop_nil,Gp,D4,Vs.put,reduceIte,Nat.reduceEqDiff,Km,Nat.reduceAdd,Cf,Cj]
  try simp only[Bg,Vs.put,B9,del,Dp,reduceIte,Nat.reduceEqDiff,Nat.reduceAdd]
  refine Mr rfl ?_;refine Ap (Zll rfl rfl) ?_;refine Ap (Zt5 rfl rfl) ?_;simp only[Cn,B6,Cg,Vs.put,reduceIte,Nat.reduceEqDiff];refine Ox rfl (fun h1=>?_) (fun h1=>?_)
  ·have hz:fuse=0:=by simpa [opR] using h1
   obtain⟨z1,z2,_⟩:=Zgh (down:=false) hz;simp only[z1,z2];rw[Zuh hz];refine Ti ?_;simp only[B6,Cg,Ew,ev,St.opd,Vs.get,reduceIte,Nat.reduceEqDiff,Klb];refine Zm4 rfl rfl rfl ?_ rfl (Wm rfl (by simp) (Wm rfl (by simp) (Wn (Wn rfl)))) rfl rfl;exact J3 rfl (J3 rfl (J3 rfl (J3 rfl Zoj)))
  ·have hz:¬fuse=0:=by simpa [opR] using h1
   obtain⟨z2,_⟩:=Zgg (down:=false) hz;simp only[z2];rw[Zug hz];refine Wk ?_;simp only[B6,Cg];refine E5 ?_;refine E5 ?_;refine Gr ?_;unfold Zy4;refine Ap (Zlk) ?_;simp only[Cn,B6,Cg,Vs.put,reduceIte,Nat.reduceEqDiff];refine Zaw ?_;refine Yaq [0,2] (α:=Nat) (fun i=>[(2,.a (.c (.lf (.int .i64 (i:Nat)))))]) (fun i=>[(0,.bx [.rf 1 [] 1 0 secs.length,.rf 2 [] 2 0 cache.length,.lf (.int .i64 (opF fuse)),.lf (.bool false)]),(1,.tr 1 (sD (flL secs (cache.take i)))),(2,.tr 2 (wH cache i))]) (3) (fun i=>i<=cache.length) (fun i=>cache.length-i) (0) [(0,0),(1,1),(2,2)] ?_ (by decide) ?_ ?_ ?_
   ·exact Koa _
   ·simp only[sel,Vs.get,upd,Vs.put,reduceIte,Nat.reduceEqDiff]
    repeat' (first|exact Y2|refine Y3 ?_|refine Y1 rfl ?_ ?_)
    all_goals (try simp only[V.map,A.map,Cz,Vs.get,reduceIte,Nat.reduceEqDiff,Kc,Khb])
    all_goals (try rfl)
   ·repeat' (first|exact Zak|refine H8 0 rfl rfl ?_ ?_|refine H8 1 rfl rfl ?_ ?_|refine H8 2 rfl rfl ?_ ?_)
    all_goals (try simp only[Lv,Cz,Vs.get,reduceIte,Nat.reduceEqDiff,Kc,Khb])
    all_goals (try rfl)
   ·rintro i hinv;simp only[sel,Vs.get,upd,Vs.put,reduceIte,Nat.reduceEqDiff];refine E5 ?_;refine E5 ?_;refine Gr ?_;unfold Zy5;refine Ap (Dj rfl) ?_;refine Ap (Dj rfl) ?_;simp only[Vs.put,reduceIte,Nat.reduceEqDiff]
    first|refine Ap (U4 rfl) ?_|refine Ap (U5 rfl) ?_
    first|refine Ap (Hv rfl) ?_|refine Ap (Hw rfl) ?_
    try simp only[Kba,Kda,Kv,Kha,Kj,Kl,Kq,Ke,Ki,Km,Kw,Nat.reduceAdd,Nat.reduceMul,toC,Bk,Cf,Cj,rep,Kp,Ky]
    first|refine Ap (Hx rfl rfl rfl) ?_|refine Ap (Fg rfl rfl (rfl) rfl) ?_|refine Ap (Fh rfl rfl (rfl) rfl) ?_
    try simp only[Kba,Kda,Kv,Kha,Kj,Kl,Kq,Ke,Ki,Km,Kw,Nat.reduceAdd,Nat.reduceMul,toC,Bk,Cf,Cj,rep,Kp,Ky]
    first|refine Ap (Zlj rfl) ?_|refine Ap (Zli rfl) ?_
    refine Ap (R5 rfl rfl rfl) ?_;simp only[Vs.put,reduceIte,Nat.reduceEqDiff];simp only[Cn,B6,Cg,Vs.put,reduceIte,Nat.reduceEqDiff];refine Ox rfl (fun h4=>?_) (fun h4=>?_)
    ·try simp only[decide_eq_true_eq,decide_eq_false_iff_not,bne_iff_ne,beq_iff_eq,bne_eq_false_iff_eq,beq_eq_false_iff_ne,ne_eq,Kbc,Kic,gt_iff_lt,ge_iff_le,Kjc,Kkc,Kjb,Klc,Kd,Kbb,Kmc,Knc]at h4
     have hib:i<cache.length:=by omega
     have e1:IntKind.i64.wrap ((i:Int)+1)=((i+1:Nat):Int):=by rw[Zib (by omega) (by omega)];rfl
     have hdi:=hd _ (Kcb hib);obtain⟨k,hk⟩:∃k:Nat,cache[i].1=k:=⟨cache[i].1.toNat,by omega⟩;have hkl:k<secs.length:=by omega
     have him:k<(flL secs (cache.take i)).length:=by rw[Zuj];exact hkl
     refine Wk ?_;simp only[B6,Cg];refine E5 ?_;refine Zaw ?_;refine Yap rfl rfl ?_;unfold Zy7;refine Eh (Dj rfl) rfl ?_
     first|refine Eh (U4 rfl) rfl ?_|refine Eh (U5 rfl) rfl ?_
     first|refine Eh (Hv rfl) rfl ?_|refine Eh (Hw rfl) rfl ?_
     try simp only[Kba,Kda,Kv,Kha,Kj,Kl,Kq,Ke,Ki,Km,Kw,Nat.reduceAdd,Nat.reduceMul,toC,Bk,Cf,Cj,rep,Kp,Ky]
     first|refine Fz (Hx rfl rfl rfl) Em (Ksb.2 (Kea rfl)) ?_|refine Fz (Fg rfl rfl (rfl) rfl) Em (Ksb.2 (Kea rfl)) ?_|refine Fz (Fh rfl rfl (rfl) rfl) Em (Ksb.2 (Kea rfl)) ?_
     try simp only[Kba,Kda,Kv,Kha,Kj,Kl,Kq,Ke,Ki,Km,Kw,Nat.reduceAdd,Nat.reduceMul,toC,Bk,Cf,Cj,rep,Kp,Ky]
     refine Eh (Dj rfl) rfl ?_;simp only[Vs.put,reduceIte,Nat.reduceEqDiff]
     first|refine Eh (U4 rfl) rfl ?_|refine Eh (U5 rfl) rfl ?_
     first|refine Eh (Hv rfl) rfl ?_|refine Eh (Hw rfl) rfl ?_
     try simp only[Kba,Kda,Kv,Kha,Kj,Kl,Kq,Ke,Ki,Km,Kw,Nat.reduceAdd,Nat.reduceMul,toC,Bk,Cf,Cj,rep,Kp,Ky]
     first|refine Fz (Hx rfl rfl rfl) Em (Ksb.2 (Kea rfl)) ?_|refine Fz (Fg rfl rfl (rfl) rfl) Em (Ksb.2 (Kea rfl)) ?_|refine Fz (Fh rfl rfl (rfl) rfl) Em (Ksb.2 (Kea rfl)) ?_
     try simp only[Kba,Kda,Kv,Kha,Kj,Kl,Kq,Ke,Ki,Km,Kw,Nat.reduceAdd,Nat.reduceMul,toC,Bk,Cf,Cj,rep,Kp,Ky]
     refine Eh (Dj rfl) rfl ?_;refine Eh (N0 rfl rfl rfl (by omega)) rfl ?_;simp only[Vs.put,reduceIte,Nat.reduceEqDiff]
     first|refine Eh (Hv rfl) rfl ?_|refine Eh (Hw rfl) rfl ?_
     try simp only[Kba,Kda,Kv,Kha,Kj,Kl,Kq,Ke,Ki,Km,Kw,Nat.reduceAdd,Nat.reduceMul,toC,Bk,Cf,Cj,rep,Kp,Ky]
     first|refine Fz (Hx rfl rfl rfl) Em (Ksb.2 (Kea rfl)) ?_|refine Fz (Fg rfl rfl (Wy hib) rfl) Em (Ksb.2 (Kea rfl)) ?_|refine Fz (Fh rfl rfl (Wy hib) rfl) Em (Ksb.2 (Kea rfl)) ?_|refine Fz (Fg rfl rfl (rfl) rfl) Em (Ksb.2 (Kea rfl)) ?_|refine Fz (Fh rfl rfl (rfl) rfl) Em (Ksb.2 (Kea rfl)) ?_
     try simp only[Kba,Kda,Kv,Kha,Kj,Kl,Kq,Ke,Ki,Km,Kw,Nat.reduceAdd,Nat.reduceMul,toC,Bk,Cf,Cj,rep,Kp,Ky]
     refine Eh (Dj rfl) rfl ?_
     first|refine Eh (U4 rfl) rfl ?_|refine Eh (U5 rfl) rfl ?_
     first|refine Eh (Hv rfl) rfl ?_|refine Eh (Hw rfl) rfl ?_
     try simp only[Kba,Kda,Kv,Kha,Kj,Kl,Kq,Ke,Ki,Km,Kw,Nat.reduceAdd,Nat.reduceMul,toC,Bk,Cf,Cj,rep,Kp,Ky]
     simp only[Vs.put,reduceIte,Nat.reduceEqDiff]
     first|refine Fz (Hx rfl rfl rfl) Em (Ksb.2 (Kea rfl)) ?_|refine Fz (Fg rfl rfl (rfl) rfl) Em (Ksb.2 (Kea rfl)) ?_|refine Fz (Fh rfl rfl (rfl) rfl) Em (Ksb.2 (Kea rfl)) ?_
     try simp only[Kba,Kda,Kv,Kha,Kj,Kl,Kq,Ke,Ki,Km,Kw,Nat.reduceAdd,Nat.reduceMul,toC,Bk,Cf,Cj,rep,Kp,Ky]
     refine Eh (Dj rfl) rfl ?_;refine Eh (N0 rfl rfl rfl (by omega)) rfl ?_
     first|refine Eh (Hv rfl) rfl ?_|refine Eh (Hw rfl) rfl ?_
     try simp only[Kba,Kda,Kv,Kha,Kj,Kl,Kq,Ke,Ki,Km,Kw,Nat.reduceAdd,Nat.reduceMul,toC,Bk,Cf,Cj,rep,Kp,Ky]
     first|refine Fz (Hx rfl rfl rfl) Em (Ksb.2 (Kea rfl)) ?_|refine Fz (Fg rfl rfl (Wy hib) rfl) Em (Ksb.2 (Kea rfl)) ?_|refine Fz (Fh rfl rfl (Wy hib) rfl) Em (Ksb.2 (Kea rfl)) ?_|refine Fz (Fg rfl rfl (rfl) rfl) Em (Ksb.2 (Kea rfl)) ?_|refine Fz (Fh rfl rfl (rfl) rfl) Em (Ksb.2 (Kea rfl)) ?_
     try simp only[Kba,Kda,Kv,Kha,Kj,Kl,Kq,Ke,Ki,Km,Kw,Nat.reduceAdd,Nat.reduceMul,toC,Bk,Cf,Cj,rep,Kp,Ky]
     refine Eh (N0 (j:=k) rfl rfl hk (by omega)) rfl ?_;simp only[Vs.put,reduceIte,Nat.reduceEqDiff];refine Yrk (by intros;nofun) ?_;refine Ytt rfl rfl rfl rfl (Wy hib) rfl (by simp) (by decide) rfl (Zan him) (by simp) (Kea rfl) ?_;simp only[Sm,Root.map,Kc,Khb,del,reduceIte,Nat.reduceEqDiff,Kj,Vs.put,Er];rw[Yr9 _ k cache[i].2 him,Yvi hib,<-Zul hib hk];simp only[Bg,B9,V.map,A.map,Er,Zxs,and_false,if_false,Kc,Khb,Vs.put,reduceIte,Nat.reduceEqDiff];refine⟨Em,.inr ⟨by first|rfl|trivial,by first|rfl|decide, ?_⟩⟩
     try simp only[Bg,B9,V.map,A.map,Ba,Er,Zxs,and_false,if_false,Kc,Khb,Vs.put,reduceIte,Nat.reduceEqDiff,List.isPrefixOf,Kbf,Ktd,Kma]
     try simp only[Bg,Vs.put,B9,del,Dp,reduceIte,Nat.reduceEqDiff,Nat.reduceAdd]
     try refine Yrj ?_
     simp only[B6,Cg,Vs.put,reduceIte,Nat.reduceEqDiff];refine Gr ?_;unfold Zy6;refine Ap (Dj rfl) ?_;refine Ap (R5 rfl rfl rfl) ?_;refine Ap (Dj rfl) ?_;simp only[Cn,B6,Cg,Vs.put,reduceIte,Nat.reduceEqDiff]
     try simp only[B6,Cg]
     refine⟨i+1, ?_, ?_,rfl,[(0,0),(1,1),(2,2)],by decide, ?_, ?_⟩
     ·omega
     ·first|omega|(dsimp only;omega)
     ·simp only[sel,Vs.get,upd,Vs.put,reduceIte,Nat.reduceEqDiff]
      repeat' (first|exact Y2|refine Y3 ?_|refine Y1 rfl ?_ ?_)
      all_goals (try simp only[V.map,A.map,Cz,Vs.get,reduceIte,Nat.reduceEqDiff,Kc,Khb,e1])
     ·repeat' (first|exact Zak|refine H8 0 rfl rfl ?_ ?_|refine H8 1 rfl rfl ?_ ?_|refine H8 2 rfl rfl ?_ ?_)
      all_goals (try simp only[Lv,Cz,Vs.get,reduceIte,Nat.reduceEqDiff,Kc,Khb,e1])
    ·try simp only[decide_eq_true_eq,decide_eq_false_iff_not,bne_iff_ne,beq_iff_eq,bne_eq_false_iff_eq,beq_eq_false_iff_ne,ne_eq,Kbc,Kic,gt_iff_lt,ge_iff_le,Kjc,Kkc,Kjb,Klc,Kd,Kbb,Kmc,Knc]at h4
     have hib:i=cache.length:=by omega
     subst hib;simp only[Kdc];refine Zpr ?_;simp only[B6,Cg,if_true,Nat.reduceEqDiff,if_false,reduceIte];refine Gr ?_;unfold Zy8;refine Ap (Dj rfl) ?_;simp only[Vs.put,reduceIte,Nat.reduceEqDiff];refine Sx (by intros;nofun) ?_;refine .inl ⟨_,rfl,_,rfl, ?_⟩;simp only[Ec,Kba,Kda,Kv,Kha,Kj,Kl,Kq,Ke,Ki,Km,Kw,Nat.reduceAdd,Nat.reduceMul,toC,Bk,Cf,Cj,rep,Kp,Ky]
     try simp only[Bg,Vs.put,B9,del,Dp,reduceIte,Nat.reduceEqDiff,Nat.reduceAdd]
     first|refine Ap (U4 rfl) ?_|refine Ap (U5 rfl) ?_
     first|refine Ap (Hv rfl) ?_|refine Ap (Hw rfl) ?_
     try simp only[Kba,Kda,Kv,Kha,Kj,Kl,Kq,Ke,Ki,Km,Kw,Nat.reduceAdd,Nat.reduceMul,toC,Bk,Cf,Cj,rep,Kp,Ky]
     refine Sx (by intros;nofun) ?_;refine Yts rfl rfl rfl rfl (Kea rfl) ?_;simp only[Kba,Kda,Kv,Kha,Kj,Kl,Kq,Ke,Ki,Km,Kw,Nat.reduceAdd,Nat.reduceMul,toC,Bk,Cf,Cj,rep,Kp,Ky]
     try simp only[Bg,Vs.put,B9,del,Dp,reduceIte,Nat.reduceEqDiff,Nat.reduceAdd]
     simp only[Cn,B6,Cg,Vs.put,reduceIte,Nat.reduceEqDiff];simp only[B6,Cg,Ew,ev,St.opd,Vs.get,reduceIte,Nat.reduceEqDiff,Klb];refine Zm4 rfl rfl rfl ?_ rfl (Wm rfl (by simp) (Wm rfl (by simp) (Wn (Wn rfl)))) rfl rfl;exact J3 rfl (J3 rfl (J3 rfl (J3 rfl Zoj)))
end
noncomputable def Yho:GEnt Tryz.prog:=⟨124,[⟨true,false,txP,[.ow,.ow,.rd,.rd],(some txP)⟩],[],Nh,fun x y hy=>by
 unfold Nh at hy;obtain⟨h,hy⟩:=Di hy;have h:=of_decide_eq_true h;have hy:=Option.some.inj hy;subst hy;exact Yr0 x.1 x.2.1 x.2.2.1 x.2.2.2 h.1 h.2.1 h.2.2.1 h.2.2.2⟩
theorem Yme x:fX [.see Ez,.see Zk2,.see Zes] [(14,.el .Y),(15,.el .Y)] .d Tryz.f174 [(false,.I .i64),(false,.I .i64)] [(false,.L .Y)] x =
 Zco x:=by kernel_rfl
def Yhe:=eS Tryz.func174 (by kernel_rfl) Yme
theorem Yng x:fG [.see Yhk,.see Ztp,.see Yhi,.gen Yhp,.gen Yho,.see Yhe] [] (.sq none .d (.sq (some [.bx 0 [.K,.O txC,
 .L (.I .i64),.L .B,.K,.K,.K,.K,.K],.kt 1,.kt 4]) (.sq none .d (.bl (.lp [.bx 0 [.K,.O txC,.L (.I .i64),.L .B,.K,.K,.K,.K,.K],.kt 1,.kt 4,.lt 5 (.I .i64)] .d)))
 .d)) Tryz.f102 [⟨true,false,Gt,[.ow,.ow,.rd,.rd,.rx,.rd,.rx,.rd,.rd],(some (.P txA (.P txF (.P (.I .i64) (.P .B txH)))))⟩,⟨false,false,.I .i64,[.rd],none⟩] []
 x=Xx x:=by kernel_rfl
def Yh1:=eG Tryz.func102 (by kernel_rfl) Yng
theorem Ykg x:fX [] [(6,.el .Y),(15,.el .Y)] (.sq none .d (.sq none .d (.sq (some [.ot 3 .Y]) (.sq none .d (.bl (.lp [.ot 3 .Y,.kt 7,.kt 8,.lt 9 (.I .i64)] .d)))
 .d))) Tryz.f117 [(false,txA)] [(false,.L .Y)] x=F4 x:=by kernel_rfl
def Nz:=eS Tryz.func117 (by kernel_rfl) Ykg
theorem Yj9 x:fX [.see Nz] [(23,.sb),(25,.el (.L .Y)),(26,.el (.L .Y)),(42,.sb),(45,.el txC),(46,.el txC)] (.sq none .d (.sq none .d (.sq (some [.kt 1,
 .kt 2,.bx 3 [.O (.L .Y),.K,.K,.K]]) (.sq none .d (.bl (.lp [.kt 1,.kt 2,.bx 3 [.O (.L .Y),.K,.K,.K],.kt 14,.kt 15,.lt 16 (.I .i64)] .d))) (.sq (some [.kt 2,.bx 3
 [.K,.O txC,.K,.K]]) (.sq none .d (.bl (.lp [.kt 2,.bx 3 [.K,.O txC,.K,.K],.kt 30,.kt 31,.lt 32 (.I .i64)] .d))) .d)))) Tryz.f72 [(true,txP)] [(true,txP)] x =
 L0 x:=by kernel_rfl
def Zer:=eS Tryz.func72 (by kernel_rfl) Yj9
theorem Yj8 x:fX [.see Nz] [(7,.sb)] .d Tryz.f208 [(true,txC)] [(true,txC)] x=Xf x:=by kernel_rfl
def Yfx:=eS Tryz.func208 (by kernel_rfl) Yj8
theorem Yka x:fX [.see Yfx] [] .d Tryz.f168 [(true,txT)] [(true,txT)] x=Pd x:=by kernel_rfl
def Zks:=eS Tryz.func168 (by kernel_rfl) Yka
end
end Go.Vs
