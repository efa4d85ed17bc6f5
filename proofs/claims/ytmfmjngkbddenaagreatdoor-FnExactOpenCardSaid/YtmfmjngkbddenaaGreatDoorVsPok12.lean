import Derived.Test.YtmfmjngkbddenaaGreatDoorProg
import Derived.Test.YtmfmjngkbddenaaGreatDoorVsPok11
set_option linter.all false
namespace Go.Vs
open Go.Proofs
set_option maxRecDepth 100000
noncomputable section
theorem Ylg x:fX [.see Ygm,.see Ygq] [] .d Tryz.f19 [(true,Gt),(false,.I .i64)] [(false,.I .i64)] x=Xk x:=by kernel_rfl
def Ygp:=eS Tryz.func19 (by kernel_rfl) Ylg
def Zy9:List GI:=[⟨(some 2),.wr (.box (.t 0)),none⟩,
 ⟨(some 4),.rd (.mv (.k (.a (.c (.nl 1))))),none⟩]
def Zza:List GI:=[⟨(some 7),.rd (.load (some 4) (.t 2)),none⟩,
 ⟨(some 8),.wr (.call 99 [(.t 7)]),none⟩,
 ⟨(some 9),.rd (.un .not (.t 8)),none⟩,
 ⟨(some 10),.rd (.mv (.t 9)),none⟩,
 ⟨(some 11),.rd (.mv (.t 1)),(some (10,false))⟩,
 ⟨(some 12),.rd (.fad 0 (.t 2)),(some (10,false))⟩,
 ⟨(some 13),.rd (.load none (.t 12)),(some (10,false))⟩,
 ⟨(some 14),.rd (.len (.t 13)),(some (10,false))⟩,
 ⟨(some 15),.rd (.bin .sub (.t 14) (.k (.a (.c (.lf (.int .i64 1)))))),(some (10,false))⟩,
 ⟨(some 16),.wr (.call 91 [(.t 11),(.k (.a (.c (.lf (.int .i64 0))))),(.t 15)]),(some (10,false))⟩,
 ⟨(some 17),.rd (.un .not (.t 16)),(some (10,false))⟩,
 ⟨(some 18),.rd (.pick (.t 10) (.k (.a (.c (.lf (.bool true))))) (.t 17)),none⟩]
def Zon:List GI:=[⟨(some 19),.wr (.lit 1 0 [.lf (.int .u8 0)] []),none⟩,
 ⟨(some 4),.rd (.mv (.t 19)),none⟩]
def Zzb:List GI:=[⟨(some 20),.rd (.fad 0 (.t 2)),none⟩,
 ⟨(some 21),.rd (.load none (.t 20)),none⟩,
 ⟨(some 22),.rd (.mv (.t 1)),none⟩,
 ⟨(some 23),.rd (.iad 1 (.t 21) (.t 22)),none⟩,
 ⟨(some 24),.rd (.load none (.t 23)),none⟩,
 ⟨(some 5),.rd (.mv (.t 24)),none⟩]
def Zzc:List GI:=[⟨(some 6),.rd (.mv (.k (.a (.c (.lf (.int .i64 0)))))),none⟩]
def Zzd:List GI:=[⟨(some 25),.rd (.mv (.t 6)),none⟩,
 ⟨(some 26),.rd (.fad 1 (.t 2)),none⟩,
 ⟨(some 27),.rd (.load none (.t 26)),none⟩,
 ⟨(some 28),.rd (.len (.t 27)),none⟩,
 ⟨(some 29),.rd (.bin .lss (.t 25) (.t 28)),none⟩]
def Zze:List GI:=[⟨(some 32),.rd (.fad 1 (.t 2)),none⟩,
 ⟨(some 33),.rd (.load none (.t 32)),none⟩,
 ⟨(some 34),.rd (.mv (.t 6)),none⟩,
 ⟨(some 35),.rd (.iad 2 (.t 33) (.t 34)),none⟩,
 ⟨(some 36),.rd (.fad 0 (.t 35)),none⟩,
 ⟨(some 37),.rd (.load none (.t 36)),none⟩,
 ⟨(some 38),.rd (.mv (.t 1)),none⟩,
 ⟨(some 39),.rd (.bin .eql (.t 37) (.t 38)),none⟩]
def Zzf:List GI:=[⟨(some 40),.rd (.fad 1 (.t 2)),none⟩,
 ⟨(some 41),.rd (.load none (.t 40)),none⟩,
 ⟨(some 42),.rd (.mv (.t 6)),none⟩,
 ⟨(some 43),.rd (.iad 2 (.t 41) (.t 42)),none⟩,
 ⟨(some 44),.rd (.fad 1 (.t 43)),none⟩,
 ⟨(some 45),.rd (.load none (.t 44)),none⟩,
 ⟨(some 5),.rd (.mv (.t 45)),none⟩]
def Zoo:List GI:=[⟨(some 30),.rd (.mv (.t 6)),none⟩,
 ⟨(some 31),.rd (.bin .add (.t 30) (.k (.a (.c (.lf (.int .i64 1)))))),none⟩,
 ⟨(some 6),.rd (.mv (.t 31)),none⟩]
def Zzg:List GI:=[⟨(some 46),.wr (.lit 1 0 [.lf (.int .u8 0)] []),none⟩,
 ⟨(some 47),.rd (.mv (.t 5)),none⟩,
 ⟨(some 48),.wr (.app 1 1 [.lf (.int .u8 0)] (.t 46) (.t 47)),none⟩,
 ⟨(some 4),.rd (.mv (.t 48)),none⟩]
def s66:Stm:=(.seq (.reg Zy9) (.seq (.seq (.reg Zza) (.cond (.t 18) (.seq (.reg Zon) .ret) .skip)) (.seq (.reg Zzb) (.seq (.seq (.reg Zzc) (.block 0 (.loop (.seq (.seq (.reg Zzd) (.cond (.t 29) .skip (.exit 0))) (.seq (.block 1 (.seq (.reg Zze) (.cond (.t 39) (.reg Zzf) .skip))) (.reg Zoo)))))) (.seq (.reg Zzg) .ret)))))
theorem Yuw:(Tryz.f66.body.bind (trC Tryz.prog Tryz.f66.ntmps))=some s66:=by kernel_rfl
section
set_option maxHeartbeats 1000000
set_option maxRecDepth 4000
theorem Yrf (x lo hi:Int):Gd Tryz.prog 91 [.val false [(.rd,.lf (.int .i64 x))],.val false [(.rd,.lf (.int .i64 lo))],.val false [(.rd,.lf (.int .i64 hi))]] ⟨[(false,[.lf (.bool (decide (lo<=x)&&decide (x<=hi)))])],[],[]⟩ :=
 Ez.ok (x,(lo,hi)) (decide (lo<=x)&&decide (x<=hi)) (by
  show Br (x,(lo,hi))=_;unfold Br iGe iLe;simp only;by_cases h:lo<=x<;>simp [h,cnd]<;>rfl)
theorem Yr1 (secs:List (List UInt8)) (cache:List Wr) (fuse:Int) (down:Bool) (n:Int) (hl:secs.length<2^62) (hm:cache.length<2^62) (hs:∀b∈secs,b.length<2^45) (hc:∀w∈cache,w.2.length<2^45) (r39:Gd Tryz.prog 99 [.val true [(.rd,.sl 1 (sD secs)),(.rd,.sl 2 (wD cache)),(.rd,.lf (.int .i64 fuse)),(.rd,.lf (.bool down))]] ⟨[(false,[.lf (.bool (C2 secs cache fuse))])],[],[]⟩):Gd Tryz.prog 66 [.val true [(.rd,.sl 1 (sD secs)),(.rd,.sl 2 (wD cache)),(.rd,.lf (.int .i64 fuse)),(.rd,.lf (.bool down))],.val false [(.rd,.lf (.int .i64 n))]] ⟨[(false,[.sl 1 (bD (Qu secs cache fuse n))])],[],[]⟩:=by
 obtain⟨c,hb,hs⟩:=Us Yuw;refine Zg1 Tryz.func66 hb hs rfl (show 2<=49 by decide) ?_;clear hb hs c;simp only[Bl,B4,flat,Kya,Kqd,Arg.cells,Kl,Kj,Ay,inC,Bz,C4,N1,H1,inV,inB,H7,Ke,Ki,Kda,Kba,Kha,Kv,Hu,Km,Kw,Kq,Nat.reduceAdd,Cj,Ycf];unfold s66;have e0:IntKind.i64.wrap ((secs.length:Int)-1)=(secs.length:Int)-1:=Zib (by omega) (by omega);refine E5 ?_;refine Gr ?_;unfold Zy9;refine Sx (by intros;nofun) ?_;refine⟨_,rfl, ?_⟩
 try simp only[Bg,Vs.put,B9,del,Dp,reduceIte,Nat.reduceEqDiff,Nat.reduceAdd]
 refine Ap (Zlk) ?_;simp only[Cn,B6,Cg,Vs.put,reduceIte,Nat.reduceEqDiff];refine E5 ?_;refine E5 ?_;refine Gr ?_;unfold Zza
 first|refine Ap (Yiq rfl rfl (Kea rfl) rfl) ?_|refine Ap (Yir rfl rfl (rfl) (Kea rfl) rfl) ?_
 try simp only[Kba,Kda,Kv,Kha,Kj,Kl,Kq,Ke,Ki,Km,Kw,Nat.reduceAdd,Nat.reduceMul,toC,Bk,Cf,Cj,rep,Kp,Ky]
 refine Zns ?_;simp only[Kc,Khb,St.opd,Vs.get,Vs.put,reduceIte,Nat.reduceEqDiff,Klb];refine⟨_,_,r39,_,rfl,_,rfl,by simp [Bi,Bb],Lh (⟨rfl,.inl rfl,by simp [Bi,Bb],_,rfl,by simp,by first|rfl|(simp;done)|exact (Kob (by simp)).symm⟩) (Lh (⟨rfl,.inl rfl,by simp [Bi,Bb],_,rfl,by simp,by first|rfl|(simp;done)|exact (Kob (by simp)).symm⟩) (Lh (rfl) (Lh (rfl) (Em)))),_,rfl,_,rfl, ?_⟩;simp only[Au,Fi,Ln,Ej,Kya,Kqd,Kyd,Kwc,Kq,Kj,Kl,Ke,Ki,Kha,Kv,Kda,Kba,if_true,if_false,Kma,List.drop_nil,Gp,D4,Vs.put,reduceIte,Nat.reduceEqDiff,Km,Nat.reduceAdd,Cf,Cj]
 try simp only[Bg,Vs.put,B9,del,Dp,reduceIte,Nat.reduceEqDiff,Nat.reduceAdd]
 refine Ap (Zll rfl rfl) ?_;refine Ap (Dj rfl) ?_;refine Zxd rfl (fun g10=>?_) (fun g10=>?_)
 ·try simp only[g10]
  try simp only[decide_eq_true_eq,decide_eq_false_iff_not,bne_iff_ne,beq_iff_eq,bne_eq_false_iff_eq,beq_eq_false_iff_ne,ne_eq,Kbc,Kic,gt_iff_lt,ge_iff_le,Kjc,Kkc,Kjb,Klc,Kd,Kbb,Kmc,Knc]at g10
  refine Ms rfl (by decide) ?_;refine Ms rfl (by decide) ?_;refine Ms rfl (by decide) ?_;refine Ms rfl (by decide) ?_;simp only[Vs.put,reduceIte,Nat.reduceEqDiff];refine Ms rfl (by decide) ?_;refine Ms rfl (by decide) ?_;refine Ms rfl (by decide) ?_;refine Ap (Zt6 rfl rfl) ?_;simp only[Cn,B6,Cg,Vs.put,reduceIte,Nat.reduceEqDiff];refine Ox rfl (fun h1=>?_) (fun h1=>?_)
  ·try simp only[decide_eq_true_eq,decide_eq_false_iff_not,bne_iff_ne,beq_iff_eq,bne_eq_false_iff_eq,beq_eq_false_iff_ne,ne_eq,Kbc,Kic,gt_iff_lt,ge_iff_le,Kjc,Kkc,Kjb,Klc,Kd,Kbb,Kmc,Knc]at h1
   refine E5 ?_;refine Gr ?_;unfold Zon;refine Sx (by intros;nofun) ?_;refine .inl ⟨_,rfl,_,rfl, ?_⟩;simp only[Ec,Kba,Kda,Kv,Kha,Kj,Kl,Kq,Ke,Ki,Km,Kw,Nat.reduceAdd,Nat.reduceMul,toC,Bk,Cf,Cj,rep,Kp,Ky]
   try simp only[Bg,Vs.put,B9,del,Dp,reduceIte,Nat.reduceEqDiff,Nat.reduceAdd]
   refine Ap (Dj rfl) ?_;simp only[Cn,B6,Cg,Vs.put,reduceIte,Nat.reduceEqDiff];refine Ti ?_;simp only[B6,Cg,Ew,ev,St.opd,Vs.get,reduceIte,Nat.reduceEqDiff,Klb];rw[Zgq fun hh=>by simp_all]
   first|exact Vt rfl rfl rfl (Q1 rfl (by simp))|exact Zfz rfl rfl rfl (Q1 rfl (by simp))
  ·exact absurd h1 (by simp at h1)
 ·try simp only[g10]
  try simp only[decide_eq_true_eq,decide_eq_false_iff_not,bne_iff_ne,beq_iff_eq,bne_eq_false_iff_eq,beq_eq_false_iff_ne,ne_eq,Kbc,Kic,gt_iff_lt,ge_iff_le,Kjc,Kkc,Kjb,Klc,Kd,Kbb,Kmc,Knc]at g10
  refine Mr rfl ?_;refine Ap (Dj rfl) ?_;refine Mr rfl ?_
  first|refine Ap (Hv rfl) ?_|refine Ap (Hw rfl) ?_
  try simp only[Kba,Kda,Kv,Kha,Kj,Kl,Kq,Ke,Ki,Km,Kw,Nat.reduceAdd,Nat.reduceMul,toC,Bk,Cf,Cj,rep,Kp,Ky]
  simp only[Vs.put,reduceIte,Nat.reduceEqDiff];refine Mr rfl ?_
  first|refine Ap (Hx rfl rfl rfl) ?_|refine Ap (Fg rfl rfl (rfl) rfl) ?_|refine Ap (Fh rfl rfl (rfl) rfl) ?_
  try simp only[Kba,Kda,Kv,Kha,Kj,Kl,Kq,Ke,Ki,Km,Kw,Nat.reduceAdd,Nat.reduceMul,toC,Bk,Cf,Cj,rep,Kp,Ky]
  refine Mr rfl ?_
  first|refine Ap (Zlj rfl) ?_|refine Ap (Zli rfl) ?_
  refine Mr rfl ?_;refine Ap (R5 rfl rfl rfl) ?_;refine Mr rfl ?_;refine Zns ?_;simp only[Kc,Khb,St.opd,Vs.get,Vs.put,reduceIte,Nat.reduceEqDiff,Klb];simp only[e0];refine⟨_,_,Yrf n 0 ((secs.length:Int)-1),_,rfl,_,rfl,by simp [Bi,Bb],Lh (rfl) (Lh (rfl) (Lh (rfl) (Em))),_,rfl,_,rfl, ?_⟩;simp only[Au,Fi,Ln,Ej,Kya,Kqd,Kyd,Kwc,Kq,Kj,Kl,Ke,Ki,Kha,Kv,Kda,Kba,if_true,if_false,Kma,List.drop_nil,Gp,D4,Vs.put,reduceIte,Nat.reduceEqDiff,Km,Nat.reduceAdd,Cf,Cj]
  try simp only[Bg,Vs.put,B9,del,Dp,reduceIte,Nat.reduceEqDiff,Nat.reduceAdd]
  refine Mr rfl ?_;refine Ap (Zll rfl rfl) ?_;refine Ap (Zt5 rfl rfl) ?_;simp only[Vs.put,reduceIte,Nat.reduceEqDiff];simp only[Cn,B6,Cg,Vs.put,reduceIte,Nat.reduceEqDiff];refine Ox rfl (fun h1=>?_) (fun h1=>?_)
  ·try simp only[decide_eq_true_eq,decide_eq_false_iff_not,bne_iff_ne,beq_iff_eq,bne_eq_false_iff_eq,beq_eq_false_iff_ne,ne_eq,Kbc,Kic,gt_iff_lt,ge_iff_le,Kjc,Kkc,Kjb,Klc,Kd,Kbb,Kmc,Knc]at h1
   refine E5 ?_;refine Gr ?_;unfold Zon;refine Sx (by intros;nofun) ?_;refine .inl ⟨_,rfl,_,rfl, ?_⟩;simp only[Ec,Kba,Kda,Kv,Kha,Kj,Kl,Kq,Ke,Ki,Km,Kw,Nat.reduceAdd,Nat.reduceMul,toC,Bk,Cf,Cj,rep,Kp,Ky]
   try simp only[Bg,Vs.put,B9,del,Dp,reduceIte,Nat.reduceEqDiff,Nat.reduceAdd]
   refine Ap (Dj rfl) ?_;simp only[Cn,B6,Cg,Vs.put,reduceIte,Nat.reduceEqDiff];refine Ti ?_;simp only[B6,Cg,Ew,ev,St.opd,Vs.get,reduceIte,Nat.reduceEqDiff,Klb];rw[Zgq fun hh=>by omega]
   first|exact Vt rfl rfl rfl (Q1 rfl (by simp))|exact Zfz rfl rfl rfl (Q1 rfl (by simp))
  ·try simp only[decide_eq_true_eq,decide_eq_false_iff_not,bne_iff_ne,beq_iff_eq,bne_eq_false_iff_eq,beq_eq_false_iff_ne,ne_eq,Kbc,Kic,gt_iff_lt,ge_iff_le,Kjc,Kkc,Kjb,Klc,Kd,Kbb,Kmc,Knc]at h1
   obtain⟨k,rfl⟩:∃k0:Nat,n=k0:=⟨n.toNat,by omega⟩;have hk:k<secs.length:=by omega
   rw[Zxz g10 hk];refine Wk ?_;simp only[B6,Cg];refine E5 ?_;refine Gr ?_;unfold Zzb
   first|refine Ap (Hv rfl) ?_|refine Ap (Hw rfl) ?_
   try simp only[Kba,Kda,Kv,Kha,Kj,Kl,Kq,Ke,Ki,Km,Kw,Nat.reduceAdd,Nat.reduceMul,toC,Bk,Cf,Cj,rep,Kp,Ky]
   first|refine Ap (Hx rfl rfl rfl) ?_|refine Ap (Fg rfl rfl (rfl) rfl) ?_|refine Ap (Fh rfl rfl (rfl) rfl) ?_
   try simp only[Kba,Kda,Kv,Kha,Kj,Kl,Kq,Ke,Ki,Km,Kw,Nat.reduceAdd,Nat.reduceMul,toC,Bk,Cf,Cj,rep,Kp,Ky]
   refine Ap (Dj rfl) ?_
   first|refine Ap (N0 rfl rfl rfl (by omega)) ?_|refine Ap (N0 rfl rfl rfl (by simp)) ?_
   simp only[Vs.put,reduceIte,Nat.reduceEqDiff]
   first|refine Ap (Hx rfl rfl rfl) ?_|refine Ap (Fg rfl rfl (Zan hk) rfl) ?_|refine Ap (Fh rfl rfl (Zan hk) rfl) ?_|refine Ap (Fg rfl rfl (rfl) rfl) ?_|refine Ap (Fh rfl rfl (rfl) rfl) ?_
   try simp only[Kba,Kda,Kv,Kha,Kj,Kl,Kq,Ke,Ki,Km,Kw,Nat.reduceAdd,Nat.reduceMul,toC,Bk,Cf,Cj,rep,Kp,Ky]
   refine Ap (Dj rfl) ?_;simp only[Cn,B6,Cg,Vs.put,reduceIte,Nat.reduceEqDiff];refine E5 ?_;refine E5 ?_;refine Gr ?_;unfold Zzc;refine Ap (Zlk) ?_;simp only[Cn,B6,Cg,Vs.put,reduceIte,Nat.reduceEqDiff];refine Zaw ?_;refine Yaq [1,2,5,6] (α:=Nat×C×List UInt8) (fun (i,c,b)=>[(5,.a (.c c)),(6,.a (.c (.lf (.int .i64 (i:Nat)))))]) (fun (i,c,b)=>[(2,.bx [.rf 0 [] 1 0 secs.length,.rf 1 [] 2 0 cache.length,.lf (.int .i64 fuse),.lf (.bool down)]),(0,.im 1 (sD secs)),(1,.im 2 (wD cache))]) (3) (fun (i,c,b)=>i<=cache.length/\rdL (cache.take i) k secs[k]=b/\((c=.rf 0 [(k,0)] 1 0 b.length/\b=secs[k])\/∃j,∃hj:j<cache.length,c=.rf 1 [(j,1)] 1 0 b.length/\b=cache[j].2)) (fun (i,c,b)=>cache.length-i) (0,.rf 0 [(k,0)] 1 0 secs[k].length,secs[k]) [(2,2),(0,0),(1,1)] ?_ (by decide) ?_ ?_ ?_
   ·exact⟨Koa _,rfl,.inl ⟨rfl,rfl⟩⟩
   ·simp only[sel,Vs.get,upd,Vs.put,reduceIte,Nat.reduceEqDiff]
    repeat' (first|exact Y2|refine Y3 ?_|refine Y1 rfl ?_ ?_)
    all_goals (try simp only[V.map,A.map,Cz,Vs.get,reduceIte,Nat.reduceEqDiff,Kc,Khb])
    all_goals (try rfl)
   ·repeat' (first|exact Zak|refine H8 2 rfl rfl ?_ ?_|refine H8 0 rfl rfl ?_ ?_|refine H8 1 rfl rfl ?_ ?_)
    all_goals (try simp only[Lv,Cz,Vs.get,reduceIte,Nat.reduceEqDiff,Kc,Khb])
    all_goals (try rfl)
   ·rintro ⟨i,c,b⟩ hinv;simp only[sel,Vs.get,upd,Vs.put,reduceIte,Nat.reduceEqDiff];obtain⟨hi,hat,hcc⟩:=hinv;have hren:Cz [(2,2),(0,0),(1,1)] c=c:=by
     rcases hcc with ⟨rfl,_⟩|⟨j,hj,rfl,_⟩<;>rfl
    refine E5 ?_;refine E5 ?_;refine Gr ?_;unfold Zzd;refine Ap (Dj rfl) ?_
    first|refine Ap (Hv rfl) ?_|refine Ap (Hw rfl) ?_
    try simp only[Kba,Kda,Kv,Kha,Kj,Kl,Kq,Ke,Ki,Km,Kw,Nat.reduceAdd,Nat.reduceMul,toC,Bk,Cf,Cj,rep,Kp,Ky]
    simp only[Vs.put,reduceIte,Nat.reduceEqDiff]
    first|refine Ap (Hx rfl rfl rfl) ?_|refine Ap (Fg rfl rfl (rfl) rfl) ?_|refine Ap (Fh rfl rfl (rfl) rfl) ?_
    try simp only[Kba,Kda,Kv,Kha,Kj,Kl,Kq,Ke,Ki,Km,Kw,Nat.reduceAdd,Nat.reduceMul,toC,Bk,Cf,Cj,rep,Kp,Ky]
    first|refine Ap (Zlj rfl) ?_|refine Ap (Zli rfl) ?_
    refine Ap (R5 rfl rfl rfl) ?_;simp only[Cn,B6,Cg,Vs.put,reduceIte,Nat.reduceEqDiff];refine Ox rfl (fun h4=>?_) (fun h4=>?_)
    ·try simp only[decide_eq_true_eq,decide_eq_false_iff_not,bne_iff_ne,beq_iff_eq,bne_eq_false_iff_eq,beq_eq_false_iff_ne,ne_eq,Kbc,Kic,gt_iff_lt,ge_iff_le,Kjc,Kkc,Kjb,Klc,Kd,Kbb,Kmc,Knc]at h4
     have hib:i<cache.length:=by omega
     have e1:IntKind.i64.wrap ((i:Int)+1)=((i+1:Nat):Int):=by rw[Zib (by omega) (by omega)];rfl
     refine Wk ?_;simp only[B6,Cg];refine E5 ?_;refine Zaw ?_;refine E5 ?_;refine Gr ?_;unfold Zze
     first|refine Ap (Hv rfl) ?_|refine Ap (Hw rfl) ?_
     try simp only[Kba,Kda,Kv,Kha,Kj,Kl,Kq,Ke,Ki,Km,Kw,Nat.reduceAdd,Nat.reduceMul,toC,Bk,Cf,Cj,rep,Kp,Ky]
     first|refine Ap (Hx rfl rfl rfl) ?_|refine Ap (Fg rfl rfl (rfl) rfl) ?_|refine Ap (Fh rfl rfl (rfl) rfl) ?_
     try simp only[Kba,Kda,Kv,Kha,Kj,Kl,Kq,Ke,Ki,Km,Kw,Nat.reduceAdd,Nat.reduceMul,toC,Bk,Cf,Cj,rep,Kp,Ky]
     simp only[Vs.put,reduceIte,Nat.reduceEqDiff];refine Ap (Dj rfl) ?_
     first|refine Ap (N0 rfl rfl rfl (by omega)) ?_|refine Ap (N0 rfl rfl rfl (by simp)) ?_
     first|refine Ap (Hv rfl) ?_|refine Ap (Hw rfl) ?_
     try simp only[Kba,Kda,Kv,Kha,Kj,Kl,Kq,Ke,Ki,Km,Kw,Nat.reduceAdd,Nat.reduceMul,toC,Bk,Cf,Cj,rep,Kp,Ky]
     first|refine Ap (Hx rfl rfl rfl) ?_|refine Ap (Fg rfl rfl (Wx hib) rfl) ?_|refine Ap (Fh rfl rfl (Wx hib) rfl) ?_|refine Ap (Fg rfl rfl (rfl) rfl) ?_|refine Ap (Fh rfl rfl (rfl) rfl) ?_
     try simp only[Kba,Kda,Kv,Kha,Kj,Kl,Kq,Ke,Ki,Km,Kw,Nat.reduceAdd,Nat.reduceMul,toC,Bk,Cf,Cj,rep,Kp,Ky]
     refine Ap (Dj rfl) ?_;simp only[Vs.put,reduceIte,Nat.reduceEqDiff];refine Ap (R5 rfl rfl rfl) ?_;simp only[Cn,B6,Cg,Vs.put,reduceIte,Nat.reduceEqDiff];refine Ox rfl (fun h5=>?_) (fun h5=>?_)
     ·try simp only[decide_eq_true_eq,decide_eq_false_iff_not,bne_iff_ne,beq_iff_eq,bne_eq_false_iff_eq,beq_eq_false_iff_ne,ne_eq,Kbc,Kic,gt_iff_lt,ge_iff_le,Kjc,Kkc,Kjb,Klc,Kd,Kbb,Kmc,Knc]at h5
      refine Gr ?_;unfold Zzf
      first|refine Ap (Hv rfl) ?_|refine Ap (Hw rfl) ?_
      try simp only[Kba,Kda,Kv,Kha,Kj,Kl,Kq,Ke,Ki,Km,Kw,Nat.reduceAdd,Nat.reduceMul,toC,Bk,Cf,Cj,rep,Kp,Ky]
      first|refine Ap (Hx rfl rfl rfl) ?_|refine Ap (Fg rfl rfl (rfl) rfl) ?_|refine Ap (Fh rfl rfl (rfl) rfl) ?_
      try simp only[Kba,Kda,Kv,Kha,Kj,Kl,Kq,Ke,Ki,Km,Kw,Nat.reduceAdd,Nat.reduceMul,toC,Bk,Cf,Cj,rep,Kp,Ky]
      refine Ap (Dj rfl) ?_
      first|refine Ap (N0 rfl rfl rfl (by omega)) ?_|refine Ap (N0 rfl rfl rfl (by simp)) ?_
      simp only[Vs.put,reduceIte,Nat.reduceEqDiff]
      first|refine Ap (Hv rfl) ?_|refine Ap (Hw rfl) ?_
      try simp only[Kba,Kda,Kv,Kha,Kj,Kl,Kq,Ke,Ki,Km,Kw,Nat.reduceAdd,Nat.reduceMul,toC,Bk,Cf,Cj,rep,Kp,Ky]
      first|refine Ap (Hx rfl rfl rfl) ?_|refine Ap (Fg rfl rfl (Wx hib) rfl) ?_|refine Ap (Fh rfl rfl (Wx hib) rfl) ?_|refine Ap (Fg rfl rfl (rfl) rfl) ?_|refine Ap (Fh rfl rfl (rfl) rfl) ?_
      try simp only[Kba,Kda,Kv,Kha,Kj,Kl,Kq,Ke,Ki,Km,Kw,Nat.reduceAdd,Nat.reduceMul,toC,Bk,Cf,Cj,rep,Kp,Ky]
      refine Ap (Dj rfl) ?_;simp only[Cn,B6,Cg,Vs.put,reduceIte,Nat.reduceEqDiff];refine Gr ?_;unfold Zoo;refine Ap (Dj rfl) ?_;refine Ap (R5 rfl rfl rfl) ?_;simp only[Vs.put,reduceIte,Nat.reduceEqDiff];refine Ap (Dj rfl) ?_;simp only[Cn,B6,Cg,Vs.put,reduceIte,Nat.reduceEqDiff]
      try simp only[B6,Cg]
      refine⟨(i+1,.rf 1 [(i,1)] 1 0 cache[i].2.length,cache[i].2), ?_, ?_,rfl,[(2,2),(0,0),(1,1)],by decide, ?_, ?_⟩
      ·exact⟨by omega,Zxx hib h5,.inr ⟨i,hib,rfl,rfl⟩⟩
      ·first|omega|(dsimp only;omega)
      ·simp only[sel,Vs.get,upd,Vs.put,reduceIte,Nat.reduceEqDiff]
       repeat' (first|exact Y2|refine Y3 ?_|refine Y1 rfl ?_ ?_)
       all_goals (try simp only[V.map,A.map,Cz,Vs.get,reduceIte,Nat.reduceEqDiff,Kc,Khb,e1])
      ·repeat' (first|exact Zak|refine H8 2 rfl rfl ?_ ?_|refine H8 0 rfl rfl ?_ ?_|refine H8 1 rfl rfl ?_ ?_)
       all_goals (try simp only[Lv,Cz,Vs.get,reduceIte,Nat.reduceEqDiff,Kc,Khb,e1])
     ·try simp only[decide_eq_true_eq,decide_eq_false_iff_not,bne_iff_ne,beq_iff_eq,bne_eq_false_iff_eq,beq_eq_false_iff_ne,ne_eq,Kbc,Kic,gt_iff_lt,ge_iff_le,Kjc,Kkc,Kjb,Klc,Kd,Kbb,Kmc,Knc]at h5
      refine Wk ?_;simp only[B6,Cg];refine Gr ?_;unfold Zoo;refine Ap (Dj rfl) ?_;refine Ap (R5 rfl rfl rfl) ?_;refine Ap (Dj rfl) ?_;simp only[Cn,B6,Cg,Vs.put,reduceIte,Nat.reduceEqDiff]
      try simp only[B6,Cg]
      refine⟨(i+1,c,b), ?_, ?_,rfl,[(2,2),(0,0),(1,1)],by decide, ?_, ?_⟩
      ·exact⟨by omega,(Zxy hib h5).trans hat,hcc⟩
      ·first|omega|(dsimp only;omega)
      ·simp only[sel,Vs.get,upd,Vs.put,reduceIte,Nat.reduceEqDiff]
       repeat' (first|exact Y2|refine Y3 ?_|refine Y1 rfl ?_ ?_)
       all_goals (try simp only[V.map,A.map,Cz,Vs.get,reduceIte,Nat.reduceEqDiff,Kc,Khb,e1])
       exact congrArg (fun x=>V.a (A.c x)) hren
      ·repeat' (first|exact Zak|refine H8 2 rfl rfl ?_ ?_|refine H8 0 rfl rfl ?_ ?_|refine H8 1 rfl rfl ?_ ?_)
       all_goals (try simp only[Lv,Cz,Vs.get,reduceIte,Nat.reduceEqDiff,Kc,Khb,e1])
    ·try simp only[decide_eq_true_eq,decide_eq_false_iff_not,bne_iff_ne,beq_iff_eq,bne_eq_false_iff_eq,beq_eq_false_iff_ne,ne_eq,Kbc,Kic,gt_iff_lt,ge_iff_le,Kjc,Kkc,Kjb,Klc,Kd,Kbb,Kmc,Knc]at h4
     have hib:i=cache.length:=by omega
     subst hib;rw[Kdc]at hat;rw[hat];have hbl:b.length<2^45:=by
      rcases hcc with ⟨_,rfl⟩|⟨j,hj,_,rfl⟩
      ·exact hs _ (Kcb hk)
      ·exact hc _ (Kcb hj)
     refine Zpr ?_;simp only[B6,Cg,if_true,Nat.reduceEqDiff,if_false,reduceIte];refine E5 ?_;refine Gr ?_;unfold Zzg;refine Sx (by intros;nofun) ?_;refine .inl ⟨_,rfl,_,rfl, ?_⟩;simp only[Ec,Kba,Kda,Kv,Kha,Kj,Kl,Kq,Ke,Ki,Km,Kw,Nat.reduceAdd,Nat.reduceMul,toC,Bk,Cf,Cj,rep,Kp,Ky]
     try simp only[Bg,Vs.put,B9,del,Dp,reduceIte,Nat.reduceEqDiff,Nat.reduceAdd]
     refine Ap (Dj rfl) ?_;simp only[Vs.put,reduceIte,Nat.reduceEqDiff];refine Sx (by intros;nofun) ?_;rcases hcc with ⟨rfl,hb0⟩|⟨j,hj,rfl,hb0⟩
     ·subst hb0;refine Zra (l:=[]) (r2:=secs[k]) rfl rfl rfl rfl (by decide) (by simp only[St.node,Vs.get,reduceIte,Nat.reduceEqDiff,Am,Zan hk,Kra,Kp]) (by simp) (by simp;omega) ?_;simp only[Bg,Vs.put,B9,reduceIte,Nat.reduceEqDiff,del,Cf,Kv,Kdc,Kj,Ki,Nat.reduceAdd,Km];refine Ap (Dj rfl) ?_;simp only[Cn,B6,Cg,Vs.put,reduceIte,Nat.reduceEqDiff];refine Ti ?_;simp only[B6,Cg,Ew,ev,St.opd,Vs.get,reduceIte,Nat.reduceEqDiff,Klb]
      first|exact Vt rfl rfl rfl (Q1 rfl (by simp))|exact Zfz rfl rfl rfl (Q1 rfl (by simp))
     ·subst hb0;refine Zra (l:=[]) (r2:=cache[j].2) rfl rfl rfl rfl (by decide) (by simp only[St.node,Vs.get,reduceIte,Nat.reduceEqDiff,Am,Wx hj,Kra,Kp,Ky]) (by simp) (by simp;omega) ?_;simp only[Bg,Vs.put,B9,reduceIte,Nat.reduceEqDiff,del,Cf,Kv,Kdc,Kj,Ki,Nat.reduceAdd,Km];refine Ap (Dj rfl) ?_;simp only[Cn,B6,Cg,Vs.put,reduceIte,Nat.reduceEqDiff];refine Ti ?_;simp only[B6,Cg,Ew,ev,St.opd,Vs.get,reduceIte,Nat.reduceEqDiff,Klb]
      first|exact Vt rfl rfl rfl (Q1 rfl (by simp))|exact Zfz rfl rfl rfl (Q1 rfl (by simp))
end
noncomputable def Zti:SEnt Tryz.prog:=⟨66,[(true,txP),(false,.I .i64)],[(false,.L .Y)],Rj,fun x y hy=>by
 unfold Rj at hy;obtain⟨_,e2,hy⟩:=F5 hy;obtain⟨h,hy⟩:=Di hy;have h:=of_decide_eq_true h;have hy:=Option.some.inj hy;subst hy;obtain⟨e2,q2⟩:=Zq5 e2;have q2:=Option.some.inj q2;subst q2;exact Yr1 x.1.1 x.1.2.1 x.1.2.2.1 x.1.2.2.2 x.2 h.1 h.2.1 h.2.2.1 h.2.2.2 (Ztf.ok _ _ e2)⟩
theorem Ymd x:fX [.see Ez] [] .d Tryz.f140 [(false,.L .Y),(false,.I .i64)] [(false,.I .i64),(false,.I .i64),(false,.B)] x=Nd x:=by kernel_rfl
def Zk0:=eS Tryz.func140 (by kernel_rfl) Ymd
theorem Yl9 x:fX [.see Zk0,.see Zes,.see Ez] [] .d Tryz.f65 [(false,.L .Y)] [(false,.I .i64),(false,.I .i64),(false,.B)] x=Xn x:=by
 kernel_rfl
def Yha:=eS Tryz.func65 (by kernel_rfl) Yl9
theorem Ym2 x:fG [] [] .d Tryz.f161 [⟨true,false,txG,[.rx,.rd,.rd],(some txB)⟩] [(false,.I .i64)] x=E7 x:=by kernel_rfl
def Zet:=eG Tryz.func161 (by kernel_rfl) Ym2
theorem Ym9 x:fG [.gen Zet] [] .d Tryz.f160 [⟨true,false,txG,[.rx,.rd,.rd],(some txB)⟩] [(false,.I .i64)] x=Rl x:=by kernel_rfl
def Yhw:=eG Tryz.func160 (by kernel_rfl) Ym9
theorem Ymc x:fX [.see Zk0] [] .d Tryz.f204 [(false,.L .Y),(false,.I .i64)] [(false,.S),(false,.I .i64),(false,.B)] x=Zcn x:=by kernel_rfl
def Yhd:=eS Tryz.func204 (by kernel_rfl) Ymc
theorem Ym7 x:fG [.see Yhd] [] .d Tryz.f163 [⟨true,false,txG,[.rx,.rd,.rd],(some txB)⟩] [(false,.S)] x=L2 x:=by kernel_rfl
def Zk5:=eG Tryz.func163 (by kernel_rfl) Ym7
theorem Ym4 x:fG [.gen Zet,.gen Zk5] [] .d Tryz.f202 [⟨true,false,txG,[.rx,.rd,.rd],(some txB)⟩] [(true,txC)] x=Ug x:=by
 kernel_rfl
def Yhs:=eG Tryz.func202 (by kernel_rfl) Ym4
theorem Ym5 x:fG [.gen Zk5,.gen Zet,.see Zk9,.gen Yhs,.see Zk8] [] (.sq none .d (.sq none .d (.sq none .d (.sq none .d (.sq
 none .d (.sq none .d (.sq (some [.bx 0 [.K,.L (.I .i64),.L .B],.kt 2,.bx 3 [.K,.L (.I .i64),.O .Y,.K,.K,.K,.K]]) .d (.sq (some [.bx 0 [.K,.L (.I .i64),.L .B],.kt 2,
 .bx 3 [.K,.K,.K,.L (.I .i64),.O .Y,.K,.K]]) .d .d)))))))) Tryz.f162 [⟨true,false,txG,[.rx,.rd,.rd],(some txB)⟩] [(true,txT)] x=Rk x:=by kernel_rfl
def Yht:=eG Tryz.func162 (by kernel_rfl) Ym5
theorem Yma x:fX [.gen Yhw,.gen Zet,.gen Yht,.gen Zk5,.see Zk0,.see Zes,.see Zk3] [] (.sq none .d (.sq none .d (.sq
 none .d (.sq none .d (.sq none .d (.sq none .d (.sq none .d (.sq (some [.kt 0,.kt 4,.kt 6,.kt 7,.kt 8,.kt 9,.bx 10 [.K,.L .S,.L (.I .i64),.O .Y,.L (.I .i64),.O .Y,.L
 (.I .i64),.L .B,.L .S,.L (.I .i64),.K,.K,.K],.bx 24 [.K,.L (.I .i64),.L .B]]) .d .d)))))))) Tryz.f92 [(false,.L .Y)] [(false,.I .i64),(false,.I .i64),(true,Dn),
 (false,.B)] x=T8 x:=by kernel_rfl
def Yhb:=eS Tryz.func92 (by kernel_rfl) Yma
theorem Ymq x:fX [.see Ez,.see Ztp,.see Zti,.see Yhb,.see Yg6] [] (.sq none .d (.sq none .d (.sq (some [.kt 1,.bx 4 [.O txT,.L (.I
 .i64),.O txH],.bx 6 [.O txT,.L (.I .i64),.O txH]]) (.sq none .d (.bl (.lp [.kt 1,.kt 2,.bx 4 [.O txT,.L (.I .i64),.O txH],.bx 6 [.O txT,.L (.I .i64),.O txH],.lt 7 (.I
 .i64)] .d))) .d))) Tryz.f33 [(true,txP),(false,.I .i64)] [(true,Fn),(false,.I .i64)] x=Xr x:=by kernel_rfl
def Yhl:=eS Tryz.func33 (by kernel_rfl) Ymq
theorem Ymf x:fX [.see Yh0,.see Ztk,.gen Yh1] [] (.sq none .d (.sq none .d (.sq (some [.kt 2,.bx 3 [.O (.L .Y),.O txC,.L (.I .i64),.L .B,.K,.L
 (.I .i64),.K,.L (.I .i64),.L (.I .i64)]]) .d .d))) Tryz.f39 [(true,Gt)] [(true,Gt)] x=Xo x:=by kernel_rfl
def Yhf:=eS Tryz.func39 (by kernel_rfl) Ymf
end
end Go.Vs
