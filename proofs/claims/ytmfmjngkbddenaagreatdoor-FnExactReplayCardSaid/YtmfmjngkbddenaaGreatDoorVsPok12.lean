import Derived.Test.YtmfmjngkbddenaaGreatDoorProg
import Derived.Test.YtmfmjngkbddenaaGreatDoorVsPok11
set_option linter.all false
namespace Go.Vs
open Go.Proofs
set_option maxRecDepth 100000
noncomputable section
def Ztr:List GI:=[⟨(some 2),.wr (.box (.t 0)),none⟩,
 ⟨(some 4),.rd (.mv (.k (.a (.c (.nl 1))))),none⟩]
def Zts:List GI:=[⟨(some 7),.rd (.load (some 4) (.t 2)),none⟩,
 ⟨(some 8),.wr (.call 99 [(.t 7)]),none⟩,
 ⟨(some 9),.rd (.un .not (.t 8)),none⟩,
 ⟨(some 10),.rd (.mv (.t 9)),none⟩,
 ⟨(some 11),.rd (.mv (.t 1)),(some (10,false))⟩,
 ⟨(some 12),.rd (.fad 0 (.t 2)),(some (10,false))⟩,
 ⟨(some 13),.rd (.load none (.t 12)),(some (10,false))⟩,
 ⟨(some 14),.rd (.len (.t 13)),(some (10,false))⟩,
 ⟨(some 15),.rd (.bin .sub (.t 14) (.k (.a (.c (.lf (.int .i64 1)))))),(some (10,false))⟩,
 ⟨(some 16),.wr (.call 91 [(.t 11),(.k (.a (.c (.lf (.int .i64 0))))),(.t 15)]),(some (10,false))⟩,
 ⟨(some 17),.rd (.un .not (.t 16)),(some (10,false))⟩,
 ⟨(some 18),.rd (.pick (.t 10) (.k (.a (.c (.lf (.bool true))))) (.t 17)),none⟩]
def Zke:List GI:=[⟨(some 19),.wr (.lit 1 0 [.lf (.int .u8 0)] []),none⟩,
 ⟨(some 4),.rd (.mv (.t 19)),none⟩]
def Ztt:List GI:=[⟨(some 20),.rd (.fad 0 (.t 2)),none⟩,
 ⟨(some 21),.rd (.load none (.t 20)),none⟩,
 ⟨(some 22),.rd (.mv (.t 1)),none⟩,
 ⟨(some 23),.rd (.iad 1 (.t 21) (.t 22)),none⟩,
 ⟨(some 24),.rd (.load none (.t 23)),none⟩,
 ⟨(some 5),.rd (.mv (.t 24)),none⟩]
def Ztu:List GI:=[⟨(some 6),.rd (.mv (.k (.a (.c (.lf (.int .i64 0)))))),none⟩]
def Ztv:List GI:=[⟨(some 25),.rd (.mv (.t 6)),none⟩,
 ⟨(some 26),.rd (.fad 1 (.t 2)),none⟩,
 ⟨(some 27),.rd (.load none (.t 26)),none⟩,
 ⟨(some 28),.rd (.len (.t 27)),none⟩,
 ⟨(some 29),.rd (.bin .lss (.t 25) (.t 28)),none⟩]
def Ztw:List GI:=[⟨(some 32),.rd (.fad 1 (.t 2)),none⟩,
 ⟨(some 33),.rd (.load none (.t 32)),none⟩,
 ⟨(some 34),.rd (.mv (.t 6)),none⟩,
 ⟨(some 35),.rd (.iad 2 (.t 33) (.t 34)),none⟩,
 ⟨(some 36),.rd (.fad 0 (.t 35)),none⟩,
 ⟨(some 37),.rd (.load none (.t 36)),none⟩,
 ⟨(some 38),.rd (.mv (.t 1)),none⟩,
 ⟨(some 39),.rd (.bin .eql (.t 37) (.t 38)),none⟩]
def Ztx:List GI:=[⟨(some 40),.rd (.fad 1 (.t 2)),none⟩,
 ⟨(some 41),.rd (.load none (.t 40)),none⟩,
 ⟨(some 42),.rd (.mv (.t 6)),none⟩,
 ⟨(some 43),.rd (.iad 2 (.t 41) (.t 42)),none⟩,
 ⟨(some 44),.rd (.fad 1 (.t 43)),none⟩,
 ⟨(some 45),.rd (.load none (.t 44)),none⟩,
 ⟨(some 5),.rd (.mv (.t 45)),none⟩]
def Zkf:List GI:=[⟨(some 30),.rd (.mv (.t 6)),none⟩,
 ⟨(some 31),.rd (.bin .add (.t 30) (.k (.a (.c (.lf (.int .i64 1)))))),none⟩,
 ⟨(some 6),.rd (.mv (.t 31)),none⟩]
def Zty:List GI:=[⟨(some 46),.wr (.lit 1 0 [.lf (.int .u8 0)] []),none⟩,
 ⟨(some 47),.rd (.mv (.t 5)),none⟩,
 ⟨(some 48),.wr (.app 1 1 [.lf (.int .u8 0)] (.t 46) (.t 47)),none⟩,
 ⟨(some 4),.rd (.mv (.t 48)),none⟩]
def s66:Stm:=(.seq (.reg Ztr) (.seq (.seq (.reg Zts) (.cond (.t 18) (.seq (.reg Zke) .ret) .skip)) (.seq (.reg Ztt) (.seq (.seq (.reg Ztu) (.block 0 (.loop (.seq (.seq (.reg Ztv) (.cond (.t 29) .skip (.exit 0))) (.seq (.block 1 (.seq (.reg Ztw) (.cond (.t 39) (.reg Ztx) .skip))) (.reg Zkf)))))) (.seq (.reg Zty) .ret)))))
theorem Ymy:(Tryz.f66.body.bind (trC Tryz.prog Tryz.f66.ntmps))=some s66:=by kernel_rfl
section
set_option maxHeartbeats 1000000
set_option maxRecDepth 4000
theorem Yjs (x lo hi:Int):Gn Tryz.prog 91 [.val false [(.rd,.lf (.int .i64 x))],.val false [(.rd,.lf (.int .i64 lo))],.val false [(.rd,.lf (.int .i64 hi))]] ⟨[(false,[.lf (.bool (decide (lo<=x)&&decide (x<=hi)))])],[],[]⟩ :=
 Fg.ok (x,(lo,hi)) (decide (lo<=x)&&decide (x<=hi)) (by
  show B0 (x,(lo,hi))=_;unfold B0 iGe iLe;simp only;by_cases h:lo<=x<;>simp [h,cnd]<;>rfl)
theorem Yka (secs:List (List UInt8)) (cache:List Wr) (fuse:Int) (down:Bool) (n:Int) (hl:secs.length<2^62) (hm:cache.length<2^62) (hs:∀b∈secs,b.length<2^45) (hc:∀w∈cache,w.2.length<2^45) (r39:Gn Tryz.prog 99 [.val true [(.rd,.sl 1 (sD secs)),(.rd,.sl 2 (wD cache)),(.rd,.lf (.int .i64 fuse)),(.rd,.lf (.bool down))]] ⟨[(false,[.lf (.bool (Ig secs cache fuse))])],[],[]⟩):Gn Tryz.prog 66 [.val true [(.rd,.sl 1 (sD secs)),(.rd,.sl 2 (wD cache)),(.rd,.lf (.int .i64 fuse)),(.rd,.lf (.bool down))],.val false [(.rd,.lf (.int .i64 n))]] ⟨[(false,[.sl 1 (bD (Ox secs cache fuse n))])],[],[]⟩:=by
 obtain⟨c,hb,hs⟩:=V6 Ymy;refine Zkc Tryz.func66 hb hs rfl (show 2<=49 by decide) ?_;clear hb hs c;simp only[Bi,Bw,flat,Kua,Kwd,Arg.cells,Kq,Ks,Ap,inC,Bt,Cu,N0,Hf,inV,inB,Hj,Kh,Ko,Kza,Kra,Keb,Kaa,Hc,Kp,Kba,Kv,Nat.reduceAdd,El,Ynj];unfold s66;have e0:IntKind.i64.wrap ((secs.length:Int)-1)=(secs.length:Int)-1:=Zwz (by omega) (by omega);refine G3 ?_;refine Ix ?_;unfold Ztr;refine Xl (by intros;nofun) ?_;refine⟨_,rfl, ?_⟩
 try simp only[Bk,Vs.put,Cf,del,D2,reduceIte,Nat.reduceEqDiff,Nat.reduceAdd]
 refine Az (Zpi) ?_;simp only[Cq,Cw,Df,Vs.put,reduceIte,Nat.reduceEqDiff];refine G3 ?_;refine G3 ?_;refine Ix ?_;unfold Zts
 first|refine Az (Ycm rfl rfl (Kgb rfl) rfl) ?_|refine Az (Ycn rfl rfl (rfl) (Kgb rfl) rfl) ?_
 try simp only[Kra,Kza,Kaa,Keb,Ks,Kq,Kv,Kh,Ko,Kp,Kba,Nat.reduceAdd,Nat.reduceMul,toC,B5,Du,El,rep,Kt,Kga]
 refine Zr9 ?_;simp only[Kc,Ksb,St.opd,Vs.get,Vs.put,reduceIte,Nat.reduceEqDiff,Kmb];refine⟨_,_,r39,_,rfl,_,rfl,by simp [Bg,Ba],Qc (⟨rfl,.inl rfl,by simp [Bg,Ba],_,rfl,by simp,by first|rfl|(simp;done)|exact (Kob (by simp)).symm⟩) (Qc (⟨rfl,.inl rfl,by simp [Bg,Ba],_,rfl,by simp,by first|rfl|(simp;done)|exact (Kob (by simp)).symm⟩) (Qc (rfl) (Qc (rfl) (Zpk)))),_,rfl,_,rfl, ?_⟩;simp only[Ao,E9,Lg,Ed,Kua,Kwd,Kef,Kbd,Kv,Ks,Kq,Kh,Ko,Keb,Kaa,Kza,Kra,if_true,if_false,Kka,List.drop_nil,Gf,Dy,Vs.put,reduceIte,Nat.reduceEqDiff,Kp,Nat.reduceAdd,Du,El]
 try simp only[Bk,Vs.put,Cf,del,D2,reduceIte,Nat.reduceEqDiff,Nat.reduceAdd]
 refine Az (Zpj rfl rfl) ?_;refine Az (Fh rfl) ?_;refine Yjb rfl (fun g10=>?_) (fun g10=>?_)
 ·try simp only[g10]
  try simp only[decide_eq_true_eq,decide_eq_false_iff_not,bne_iff_ne,beq_iff_eq,bne_eq_false_iff_eq,beq_eq_false_iff_ne,ne_eq,Kmc,Ked,gt_iff_lt,ge_iff_le,Kfd,Kgd,Kjb,Khd,Ke,Kfb,Kid,Kjd]at g10
  refine Qx rfl (by decide) ?_;refine Qx rfl (by decide) ?_;refine Qx rfl (by decide) ?_;refine Qx rfl (by decide) ?_;simp only[Vs.put,reduceIte,Nat.reduceEqDiff];refine Qx rfl (by decide) ?_;refine Qx rfl (by decide) ?_;refine Qx rfl (by decide) ?_;refine Az (Ycp rfl rfl) ?_;simp only[Cq,Cw,Df,Vs.put,reduceIte,Nat.reduceEqDiff];refine Ui rfl (fun h1=>?_) (fun h1=>?_)
  ·try simp only[decide_eq_true_eq,decide_eq_false_iff_not,bne_iff_ne,beq_iff_eq,bne_eq_false_iff_eq,beq_eq_false_iff_ne,ne_eq,Kmc,Ked,gt_iff_lt,ge_iff_le,Kfd,Kgd,Kjb,Khd,Ke,Kfb,Kid,Kjd]at h1
   refine G3 ?_;refine Ix ?_;unfold Zke;refine Xl (by intros;nofun) ?_;refine .inl ⟨_,rfl,_,rfl, ?_⟩;simp only[D1,Kra,Kza,Kaa,Keb,Ks,Kq,Kv,Kh,Ko,Kp,Kba,Nat.reduceAdd,Nat.reduceMul,toC,B5,Du,El,rep,Kt,Kga]
   try simp only[Bk,Vs.put,Cf,del,D2,reduceIte,Nat.reduceEqDiff,Nat.reduceAdd]
   refine Az (Fh rfl) ?_;simp only[Cq,Cw,Df,Vs.put,reduceIte,Nat.reduceEqDiff];refine Yd ?_;simp only[Cw,Df,Ey,ev,St.opd,Vs.get,reduceIte,Nat.reduceEqDiff,Kmb];rw[Zdf fun hh=>by simp_all]
   first|exact Tn rfl rfl rfl (O8 rfl (by simp))|exact Zcu rfl rfl rfl (O8 rfl (by simp))
  ·exact absurd h1 (by simp at h1)
 ·try simp only[g10]
  try simp only[decide_eq_true_eq,decide_eq_false_iff_not,bne_iff_ne,beq_iff_eq,bne_eq_false_iff_eq,beq_eq_false_iff_ne,ne_eq,Kmc,Ked,gt_iff_lt,ge_iff_le,Kfd,Kgd,Kjb,Khd,Ke,Kfb,Kid,Kjd]at g10
  refine Qw rfl ?_;refine Az (Fh rfl) ?_;refine Qw rfl ?_
  first|refine Az (Qa rfl) ?_|refine Az (Qb rfl) ?_
  try simp only[Kra,Kza,Kaa,Keb,Ks,Kq,Kv,Kh,Ko,Kp,Kba,Nat.reduceAdd,Nat.reduceMul,toC,B5,Du,El,rep,Kt,Kga]
  simp only[Vs.put,reduceIte,Nat.reduceEqDiff];refine Qw rfl ?_
  first|refine Az (Ny rfl rfl rfl) ?_|refine Az (Ji rfl rfl (rfl) rfl) ?_|refine Az (Jj rfl rfl (rfl) rfl) ?_
  try simp only[Kra,Kza,Kaa,Keb,Ks,Kq,Kv,Kh,Ko,Kp,Kba,Nat.reduceAdd,Nat.reduceMul,toC,B5,Du,El,rep,Kt,Kga]
  refine Qw rfl ?_
  first|refine Az (Zph rfl) ?_|refine Az (Zpg rfl) ?_
  refine Qw rfl ?_;refine Az (Wm rfl rfl rfl) ?_;refine Qw rfl ?_;refine Zr9 ?_;simp only[Kc,Ksb,St.opd,Vs.get,Vs.put,reduceIte,Nat.reduceEqDiff,Kmb];simp only[e0];refine⟨_,_,Yjs n 0 ((secs.length:Int)-1),_,rfl,_,rfl,by simp [Bg,Ba],Qc (rfl) (Qc (rfl) (Qc (rfl) (Zpk))),_,rfl,_,rfl, ?_⟩;simp only[Ao,E9,Lg,Ed,Kua,Kwd,Kef,Kbd,Kv,Ks,Kq,Kh,Ko,Keb,Kaa,Kza,Kra,if_true,if_false,Kka,List.drop_nil,Gf,Dy,Vs.put,reduceIte,Nat.reduceEqDiff,Kp,Nat.reduceAdd,Du,El]
  try simp only[Bk,Vs.put,Cf,del,D2,reduceIte,Nat.reduceEqDiff,Nat.reduceAdd]
  refine Qw rfl ?_;refine Az (Zpj rfl rfl) ?_;refine Az (Yco rfl rfl) ?_;simp only[Vs.put,reduceIte,Nat.reduceEqDiff];simp only[Cq,Cw,Df,Vs.put,reduceIte,Nat.reduceEqDiff];refine Ui rfl (fun h1=>?_) (fun h1=>?_)
  ·try simp only[decide_eq_true_eq,decide_eq_false_iff_not,bne_iff_ne,beq_iff_eq,bne_eq_false_iff_eq,beq_eq_false_iff_ne,ne_eq,Kmc,Ked,gt_iff_lt,ge_iff_le,Kfd,Kgd,Kjb,Khd,Ke,Kfb,Kid,Kjd]at h1
   refine G3 ?_;refine Ix ?_;unfold Zke;refine Xl (by intros;nofun) ?_;refine .inl ⟨_,rfl,_,rfl, ?_⟩;simp only[D1,Kra,Kza,Kaa,Keb,Ks,Kq,Kv,Kh,Ko,Kp,Kba,Nat.reduceAdd,Nat.reduceMul,toC,B5,Du,El,rep,Kt,Kga]
   try simp only[Bk,Vs.put,Cf,del,D2,reduceIte,Nat.reduceEqDiff,Nat.reduceAdd]
   refine Az (Fh rfl) ?_;simp only[Cq,Cw,Df,Vs.put,reduceIte,Nat.reduceEqDiff];refine Yd ?_;simp only[Cw,Df,Ey,ev,St.opd,Vs.get,reduceIte,Nat.reduceEqDiff,Kmb];rw[Zdf fun hh=>by omega]
   first|exact Tn rfl rfl rfl (O8 rfl (by simp))|exact Zcu rfl rfl rfl (O8 rfl (by simp))
  ·try simp only[decide_eq_true_eq,decide_eq_false_iff_not,bne_iff_ne,beq_iff_eq,bne_eq_false_iff_eq,beq_eq_false_iff_ne,ne_eq,Kmc,Ked,gt_iff_lt,ge_iff_le,Kfd,Kgd,Kjb,Khd,Ke,Kfb,Kid,Kjd]at h1
   obtain⟨k,rfl⟩:∃k0:Nat,n=k0:=⟨n.toNat,by omega⟩;have hk:k<secs.length:=by omega
   rw[Zst g10 hk];refine Zd9 ?_;simp only[Cw,Df];refine G3 ?_;refine Ix ?_;unfold Ztt
   first|refine Az (Qa rfl) ?_|refine Az (Qb rfl) ?_
   try simp only[Kra,Kza,Kaa,Keb,Ks,Kq,Kv,Kh,Ko,Kp,Kba,Nat.reduceAdd,Nat.reduceMul,toC,B5,Du,El,rep,Kt,Kga]
   first|refine Az (Ny rfl rfl rfl) ?_|refine Az (Ji rfl rfl (rfl) rfl) ?_|refine Az (Jj rfl rfl (rfl) rfl) ?_
   try simp only[Kra,Kza,Kaa,Keb,Ks,Kq,Kv,Kh,Ko,Kp,Kba,Nat.reduceAdd,Nat.reduceMul,toC,B5,Du,El,rep,Kt,Kga]
   refine Az (Fh rfl) ?_
   first|refine Az (Sq rfl rfl rfl (by omega)) ?_|refine Az (Sq rfl rfl rfl (by simp)) ?_
   simp only[Vs.put,reduceIte,Nat.reduceEqDiff]
   first|refine Az (Ny rfl rfl rfl) ?_|refine Az (Ji rfl rfl (Zkg hk) rfl) ?_|refine Az (Jj rfl rfl (Zkg hk) rfl) ?_|refine Az (Ji rfl rfl (rfl) rfl) ?_|refine Az (Jj rfl rfl (rfl) rfl) ?_
   try simp only[Kra,Kza,Kaa,Keb,Ks,Kq,Kv,Kh,Ko,Kp,Kba,Nat.reduceAdd,Nat.reduceMul,toC,B5,Du,El,rep,Kt,Kga]
   refine Az (Fh rfl) ?_;simp only[Cq,Cw,Df,Vs.put,reduceIte,Nat.reduceEqDiff];refine G3 ?_;refine G3 ?_;refine Ix ?_;unfold Ztu;refine Az (Zpi) ?_;simp only[Cq,Cw,Df,Vs.put,reduceIte,Nat.reduceEqDiff];refine Zle ?_;refine Yl6 [1,2,5,6] (α:=Nat×C×List UInt8) (fun (i,c,b)=>[(5,.a (.c c)),(6,.a (.c (.lf (.int .i64 (i:Nat)))))]) (fun (i,c,b)=>[(2,.bx [.rf 0 [] 1 0 secs.length,.rf 1 [] 2 0 cache.length,.lf (.int .i64 fuse),.lf (.bool down)]),(0,.im 1 (sD secs)),(1,.im 2 (wD cache))]) (3) (fun (i,c,b)=>i<=cache.length/\rdL (cache.take i) k secs[k]=b/\((c=.rf 0 [(k,0)] 1 0 b.length/\b=secs[k])\/∃j,∃hj:j<cache.length,c=.rf 1 [(j,1)] 1 0 b.length/\b=cache[j].2)) (fun (i,c,b)=>cache.length-i) (0,.rf 0 [(k,0)] 1 0 secs[k].length,secs[k]) [(2,2),(0,0),(1,1)] ?_ (by decide) ?_ ?_ ?_
   ·exact⟨Kbb _,rfl,.inl ⟨rfl,rfl⟩⟩
   ·simp only[sel,Vs.get,upd,Vs.put,reduceIte,Nat.reduceEqDiff]
    repeat' (first|exact Zhc|refine Zhd ?_|refine Zhb rfl ?_ ?_)
    all_goals (try simp only[V.map,A.map,Cv,Vs.get,reduceIte,Nat.reduceEqDiff,Kc,Ksb])
    all_goals (try rfl)
   ·repeat' (first|exact Zj9|refine Mx 2 rfl rfl ?_ ?_|refine Mx 0 rfl rfl ?_ ?_|refine Mx 1 rfl rfl ?_ ?_)
    all_goals (try simp only[Mv,Cv,Vs.get,reduceIte,Nat.reduceEqDiff,Kc,Ksb])
    all_goals (try rfl)
   ·rintro ⟨i,c,b⟩ hinv;simp only[sel,Vs.get,upd,Vs.put,reduceIte,Nat.reduceEqDiff];obtain⟨hi,hat,hcc⟩:=hinv;have hren:Cv [(2,2),(0,0),(1,1)] c=c:=by
     rcases hcc with ⟨rfl,_⟩|⟨j,hj,rfl,_⟩<;>rfl
    refine G3 ?_;refine G3 ?_;refine Ix ?_;unfold Ztv;refine Az (Fh rfl) ?_
    first|refine Az (Qa rfl) ?_|refine Az (Qb rfl) ?_
    try simp only[Kra,Kza,Kaa,Keb,Ks,Kq,Kv,Kh,Ko,Kp,Kba,Nat.reduceAdd,Nat.reduceMul,toC,B5,Du,El,rep,Kt,Kga]
    simp only[Vs.put,reduceIte,Nat.reduceEqDiff]
    first|refine Az (Ny rfl rfl rfl) ?_|refine Az (Ji rfl rfl (rfl) rfl) ?_|refine Az (Jj rfl rfl (rfl) rfl) ?_
    try simp only[Kra,Kza,Kaa,Keb,Ks,Kq,Kv,Kh,Ko,Kp,Kba,Nat.reduceAdd,Nat.reduceMul,toC,B5,Du,El,rep,Kt,Kga]
    first|refine Az (Zph rfl) ?_|refine Az (Zpg rfl) ?_
    refine Az (Wm rfl rfl rfl) ?_;simp only[Cq,Cw,Df,Vs.put,reduceIte,Nat.reduceEqDiff];refine Ui rfl (fun h4=>?_) (fun h4=>?_)
    ·try simp only[decide_eq_true_eq,decide_eq_false_iff_not,bne_iff_ne,beq_iff_eq,bne_eq_false_iff_eq,beq_eq_false_iff_ne,ne_eq,Kmc,Ked,gt_iff_lt,ge_iff_le,Kfd,Kgd,Kjb,Khd,Ke,Kfb,Kid,Kjd]at h4
     have hib:i<cache.length:=by omega
     have e1:IntKind.i64.wrap ((i:Int)+1)=((i+1:Nat):Int):=by rw[Zwz (by omega) (by omega)];rfl
     refine Zd9 ?_;simp only[Cw,Df];refine G3 ?_;refine Zle ?_;refine G3 ?_;refine Ix ?_;unfold Ztw
     first|refine Az (Qa rfl) ?_|refine Az (Qb rfl) ?_
     try simp only[Kra,Kza,Kaa,Keb,Ks,Kq,Kv,Kh,Ko,Kp,Kba,Nat.reduceAdd,Nat.reduceMul,toC,B5,Du,El,rep,Kt,Kga]
     first|refine Az (Ny rfl rfl rfl) ?_|refine Az (Ji rfl rfl (rfl) rfl) ?_|refine Az (Jj rfl rfl (rfl) rfl) ?_
     try simp only[Kra,Kza,Kaa,Keb,Ks,Kq,Kv,Kh,Ko,Kp,Kba,Nat.reduceAdd,Nat.reduceMul,toC,B5,Du,El,rep,Kt,Kga]
     simp only[Vs.put,reduceIte,Nat.reduceEqDiff];refine Az (Fh rfl) ?_
     first|refine Az (Sq rfl rfl rfl (by omega)) ?_|refine Az (Sq rfl rfl rfl (by simp)) ?_
     first|refine Az (Qa rfl) ?_|refine Az (Qb rfl) ?_
     try simp only[Kra,Kza,Kaa,Keb,Ks,Kq,Kv,Kh,Ko,Kp,Kba,Nat.reduceAdd,Nat.reduceMul,toC,B5,Du,El,rep,Kt,Kga]
     first|refine Az (Ny rfl rfl rfl) ?_|refine Az (Ji rfl rfl (Yt hib) rfl) ?_|refine Az (Jj rfl rfl (Yt hib) rfl) ?_|refine Az (Ji rfl rfl (rfl) rfl) ?_|refine Az (Jj rfl rfl (rfl) rfl) ?_
     try simp only[Kra,Kza,Kaa,Keb,Ks,Kq,Kv,Kh,Ko,Kp,Kba,Nat.reduceAdd,Nat.reduceMul,toC,B5,Du,El,rep,Kt,Kga]
     refine Az (Fh rfl) ?_;simp only[Vs.put,reduceIte,Nat.reduceEqDiff];refine Az (Wm rfl rfl rfl) ?_;simp only[Cq,Cw,Df,Vs.put,reduceIte,Nat.reduceEqDiff];refine Ui rfl (fun h5=>?_) (fun h5=>?_)
     ·try simp only[decide_eq_true_eq,decide_eq_false_iff_not,bne_iff_ne,beq_iff_eq,bne_eq_false_iff_eq,beq_eq_false_iff_ne,ne_eq,Kmc,Ked,gt_iff_lt,ge_iff_le,Kfd,Kgd,Kjb,Khd,Ke,Kfb,Kid,Kjd]at h5
      refine Ix ?_;unfold Ztx
      first|refine Az (Qa rfl) ?_|refine Az (Qb rfl) ?_
      try simp only[Kra,Kza,Kaa,Keb,Ks,Kq,Kv,Kh,Ko,Kp,Kba,Nat.reduceAdd,Nat.reduceMul,toC,B5,Du,El,rep,Kt,Kga]
      first|refine Az (Ny rfl rfl rfl) ?_|refine Az (Ji rfl rfl (rfl) rfl) ?_|refine Az (Jj rfl rfl (rfl) rfl) ?_
      try simp only[Kra,Kza,Kaa,Keb,Ks,Kq,Kv,Kh,Ko,Kp,Kba,Nat.reduceAdd,Nat.reduceMul,toC,B5,Du,El,rep,Kt,Kga]
      refine Az (Fh rfl) ?_
      first|refine Az (Sq rfl rfl rfl (by omega)) ?_|refine Az (Sq rfl rfl rfl (by simp)) ?_
      simp only[Vs.put,reduceIte,Nat.reduceEqDiff]
      first|refine Az (Qa rfl) ?_|refine Az (Qb rfl) ?_
      try simp only[Kra,Kza,Kaa,Keb,Ks,Kq,Kv,Kh,Ko,Kp,Kba,Nat.reduceAdd,Nat.reduceMul,toC,B5,Du,El,rep,Kt,Kga]
      first|refine Az (Ny rfl rfl rfl) ?_|refine Az (Ji rfl rfl (Yt hib) rfl) ?_|refine Az (Jj rfl rfl (Yt hib) rfl) ?_|refine Az (Ji rfl rfl (rfl) rfl) ?_|refine Az (Jj rfl rfl (rfl) rfl) ?_
      try simp only[Kra,Kza,Kaa,Keb,Ks,Kq,Kv,Kh,Ko,Kp,Kba,Nat.reduceAdd,Nat.reduceMul,toC,B5,Du,El,rep,Kt,Kga]
      refine Az (Fh rfl) ?_;simp only[Cq,Cw,Df,Vs.put,reduceIte,Nat.reduceEqDiff];refine Ix ?_;unfold Zkf;refine Az (Fh rfl) ?_;refine Az (Wm rfl rfl rfl) ?_;simp only[Vs.put,reduceIte,Nat.reduceEqDiff];refine Az (Fh rfl) ?_;simp only[Cq,Cw,Df,Vs.put,reduceIte,Nat.reduceEqDiff]
      try simp only[Cw,Df]
      refine⟨(i+1,.rf 1 [(i,1)] 1 0 cache[i].2.length,cache[i].2), ?_, ?_,rfl,[(2,2),(0,0),(1,1)],by decide, ?_, ?_⟩
      ·exact⟨by omega,Zsr hib h5,.inr ⟨i,hib,rfl,rfl⟩⟩
      ·first|omega|(dsimp only;omega)
      ·simp only[sel,Vs.get,upd,Vs.put,reduceIte,Nat.reduceEqDiff]
       repeat' (first|exact Zhc|refine Zhd ?_|refine Zhb rfl ?_ ?_)
       all_goals (try simp only[V.map,A.map,Cv,Vs.get,reduceIte,Nat.reduceEqDiff,Kc,Ksb,e1])
      ·repeat' (first|exact Zj9|refine Mx 2 rfl rfl ?_ ?_|refine Mx 0 rfl rfl ?_ ?_|refine Mx 1 rfl rfl ?_ ?_)
       all_goals (try simp only[Mv,Cv,Vs.get,reduceIte,Nat.reduceEqDiff,Kc,Ksb,e1])
     ·try simp only[decide_eq_true_eq,decide_eq_false_iff_not,bne_iff_ne,beq_iff_eq,bne_eq_false_iff_eq,beq_eq_false_iff_ne,ne_eq,Kmc,Ked,gt_iff_lt,ge_iff_le,Kfd,Kgd,Kjb,Khd,Ke,Kfb,Kid,Kjd]at h5
      refine Zd9 ?_;simp only[Cw,Df];refine Ix ?_;unfold Zkf;refine Az (Fh rfl) ?_;refine Az (Wm rfl rfl rfl) ?_;refine Az (Fh rfl) ?_;simp only[Cq,Cw,Df,Vs.put,reduceIte,Nat.reduceEqDiff]
      try simp only[Cw,Df]
      refine⟨(i+1,c,b), ?_, ?_,rfl,[(2,2),(0,0),(1,1)],by decide, ?_, ?_⟩
      ·exact⟨by omega,(Zss hib h5).trans hat,hcc⟩
      ·first|omega|(dsimp only;omega)
      ·simp only[sel,Vs.get,upd,Vs.put,reduceIte,Nat.reduceEqDiff]
       repeat' (first|exact Zhc|refine Zhd ?_|refine Zhb rfl ?_ ?_)
       all_goals (try simp only[V.map,A.map,Cv,Vs.get,reduceIte,Nat.reduceEqDiff,Kc,Ksb,e1])
       exact congrArg (fun x=>V.a (A.c x)) hren
      ·repeat' (first|exact Zj9|refine Mx 2 rfl rfl ?_ ?_|refine Mx 0 rfl rfl ?_ ?_|refine Mx 1 rfl rfl ?_ ?_)
       all_goals (try simp only[Mv,Cv,Vs.get,reduceIte,Nat.reduceEqDiff,Kc,Ksb,e1])
    ·try simp only[decide_eq_true_eq,decide_eq_false_iff_not,bne_iff_ne,beq_iff_eq,bne_eq_false_iff_eq,beq_eq_false_iff_ne,ne_eq,Kmc,Ked,gt_iff_lt,ge_iff_le,Kfd,Kgd,Kjb,Khd,Ke,Kfb,Kid,Kjd]at h4
     have hib:i=cache.length:=by omega
     subst hib;rw[Kic]at hat;rw[hat];have hbl:b.length<2^45:=by
      rcases hcc with ⟨_,rfl⟩|⟨j,hj,_,rfl⟩
      ·exact hs _ (Ktb hk)
      ·exact hc _ (Ktb hj)
     refine Zu7 ?_;simp only[Cw,Df,if_true,Nat.reduceEqDiff,if_false,reduceIte];refine G3 ?_;refine Ix ?_;unfold Zty;refine Xl (by intros;nofun) ?_;refine .inl ⟨_,rfl,_,rfl, ?_⟩;simp only[D1,Kra,Kza,Kaa,Keb,Ks,Kq,Kv,Kh,Ko,Kp,Kba,Nat.reduceAdd,Nat.reduceMul,toC,B5,Du,El,rep,Kt,Kga]
     try simp only[Bk,Vs.put,Cf,del,D2,reduceIte,Nat.reduceEqDiff,Nat.reduceAdd]
     refine Az (Fh rfl) ?_;simp only[Vs.put,reduceIte,Nat.reduceEqDiff];refine Xl (by intros;nofun) ?_;rcases hcc with ⟨rfl,hb0⟩|⟨j,hj,rfl,hb0⟩
     ·subst hb0;refine Zmv (l:=[]) (r2:=secs[k]) rfl rfl rfl rfl (by decide) (by simp only[St.node,Vs.get,reduceIte,Nat.reduceEqDiff,Al,Zkg hk,Koa,Kt]) (by simp) (by simp;omega) ?_;simp only[Bk,Vs.put,Cf,reduceIte,Nat.reduceEqDiff,del,Du,Kaa,Kic,Ks,Ko,Nat.reduceAdd,Kp];refine Az (Fh rfl) ?_;simp only[Cq,Cw,Df,Vs.put,reduceIte,Nat.reduceEqDiff];refine Yd ?_;simp only[Cw,Df,Ey,ev,St.opd,Vs.get,reduceIte,Nat.reduceEqDiff,Kmb]
      first|exact Tn rfl rfl rfl (O8 rfl (by simp))|exact Zcu rfl rfl rfl (O8 rfl (by simp))
     ·subst hb0;refine Zmv (l:=[]) (r2:=cache[j].2) rfl rfl rfl rfl (by decide) (by simp only[St.node,Vs.get,reduceIte,Nat.reduceEqDiff,Al,Yt hj,Koa,Kt,Kga]) (by simp) (by simp;omega) ?_;simp only[Bk,Vs.put,Cf,reduceIte,Nat.reduceEqDiff,del,Du,Kaa,Kic,Ks,Ko,Nat.reduceAdd,Kp];refine Az (Fh rfl) ?_;simp only[Cq,Cw,Df,Vs.put,reduceIte,Nat.reduceEqDiff];refine Yd ?_;simp only[Cw,Df,Ey,ev,St.opd,Vs.get,reduceIte,Nat.reduceEqDiff,Kmb]
      first|exact Tn rfl rfl rfl (O8 rfl (by simp))|exact Zcu rfl rfl rfl (O8 rfl (by simp))
end
noncomputable def Ybi:SEnt Tryz.prog:=⟨66,[(true,txP),(false,.I .i64)],[(false,.L .Y)],Va,fun x y hy=>by
 unfold Va at hy;obtain⟨_,e2,hy⟩:=Ff hy;obtain⟨h,hy⟩:=C6 hy;have h:=of_decide_eq_true h;have hy:=Option.some.inj hy;subst hy;obtain⟨e2,q2⟩:=Zmq e2;have q2:=Option.some.inj q2;subst q2;exact Yka x.1.1 x.1.2.1 x.1.2.2.1 x.1.2.2.2 x.2 h.1 h.2.1 h.2.2.1 h.2.2.2 (Ybc.ok _ _ e2)⟩
theorem Yfh x:fX [.see Fg] [] .d Tryz.f140 [(false,.L .Y),(false,.I .i64)] [(false,.I .i64),(false,.I .i64),(false,.B)] x=Rt x:=by kernel_rfl
def Zos:=eS Tryz.func140 (by kernel_rfl) Yfh
theorem Yft x:fG [] [] .d Tryz.f161 [⟨true,false,txG,[.rx,.rd,.rd],(some txB)⟩] [(false,.I .i64)] x=En x:=by kernel_rfl
def Zbt:=eG Tryz.func161 (by kernel_rfl) Yft
theorem Yfz x:fG [.gen Zbt] [] .d Tryz.f160 [⟨true,false,txG,[.rx,.rd,.rd],(some txB)⟩] [(false,.I .i64)] x=Pt x:=by kernel_rfl
def Ybs:=eG Tryz.func160 (by kernel_rfl) Yfz
theorem Yfg x:fX [.see Zos] [] .d Tryz.f204 [(false,.L .Y),(false,.I .i64)] [(false,.S),(false,.I .i64),(false,.B)] x=Z2 x:=by kernel_rfl
def Ybg:=eS Tryz.func204 (by kernel_rfl) Yfg
theorem Yfx x:fG [.see Ybg] [] .d Tryz.f163 [⟨true,false,txG,[.rx,.rd,.rd],(some txB)⟩] [(false,.S)] x=J4 x:=by kernel_rfl
def Zg4:=eG Tryz.func163 (by kernel_rfl) Yfx
theorem Yfu x:fG [.gen Zbt,.gen Zg4] [] .d Tryz.f202 [⟨true,false,txG,[.rx,.rd,.rd],(some txB)⟩] [(true,txC)] x=Rz x:=by
 kernel_rfl
def Ybo:=eG Tryz.func202 (by kernel_rfl) Yfu
theorem Yfv x:fG [.gen Zg4,.gen Zbt,.see Zo3,.gen Ybo,.see Zo1] [] (.sq none .d (.sq none .d (.sq none .d (.sq none .d (.sq
 none .d (.sq none .d (.sq (some [.bx 0 [.K,.L (.I .i64),.L .B],.kt 2,.bx 3 [.K,.L (.I .i64),.O .Y,.K,.K,.K,.K]]) .d (.sq (some [.bx 0 [.K,.L (.I .i64),.L .B],.kt 2,
 .bx 3 [.K,.K,.K,.L (.I .i64),.O .Y,.K,.K]]) .d .d)))))))) Tryz.f162 [⟨true,false,txG,[.rx,.rd,.rd],(some txB)⟩] [(true,txT)] x=Ps x:=by kernel_rfl
def Ybp:=eG Tryz.func162 (by kernel_rfl) Yfv
theorem Yfe x:fX [.gen Ybs,.gen Zbt,.gen Ybp,.gen Zg4,.see Zos,.see Ybm,.see Zov] [] (.sq none .d (.sq none .d (.sq
 none .d (.sq none .d (.sq none .d (.sq none .d (.sq none .d (.sq (some [.kt 0,.kt 4,.kt 6,.kt 7,.kt 8,.kt 9,.bx 10 [.K,.L .S,.L (.I .i64),.O .Y,.L (.I .i64),.O .Y,.L
 (.I .i64),.L .B,.L .S,.L (.I .i64),.K,.K,.K],.bx 24 [.K,.L (.I .i64),.L .B]]) .d .d)))))))) Tryz.f92 [(false,.L .Y)] [(false,.I .i64),(false,.I .i64),(true,Lx),
 (false,.B)] x=Rs x:=by kernel_rfl
def Ybe:=eS Tryz.func92 (by kernel_rfl) Yfe
theorem Yfm x:fX [.see Fg,.see Ybx,.see Ybi,.see Ybe,.see Ya9] [] (.sq none .d (.sq none .d (.sq (some [.kt 1,.bx 4 [.O txT,.L (.I
 .i64),.O txH],.bx 6 [.O txT,.L (.I .i64),.O txH]]) (.sq none .d (.bl (.lp [.kt 1,.kt 2,.bx 4 [.O txT,.L (.I .i64),.O txH],.bx 6 [.O txT,.L (.I .i64),.O txH],.lt 7 (.I
 .i64)] .d))) .d))) Tryz.f33 [(true,txP),(false,.I .i64)] [(true,F2),(false,.I .i64)] x=Z4 x:=by kernel_rfl
def Ybj:=eS Tryz.func33 (by kernel_rfl) Yfm
end
end Go.Vs
