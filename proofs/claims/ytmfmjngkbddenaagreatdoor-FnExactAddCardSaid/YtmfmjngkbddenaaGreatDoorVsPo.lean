import Derived.Test.YtmfmjngkbddenaaGreatDoorVsW5
import Derived.Test.YtmfmjngkbddenaaGreatDoorVsW6
set_option linter.all false
namespace Go.Vs
noncomputable section
def Ox:List UInt8:=[240,240,240,240,240,240,240,240,240,240,240,240,240,240,240,240,240,240,240,240,240,240,240,240,240,240,240,240,240,240,
 240,240,240,240,240,240,240,240,240,240,240,240,240,240,240,240,240,240,240,240,240,240,240,240,240,240,240,240,240,240,240,240,240,240,240,
 240,240,240,240,240,240,240,240,240,240,240,240,240,240,240,240,240,240,240,240,240,240,240,240,240,240,240,240,240,240,240,240,240,240,240,
 240,240,240,240,240,240,240,240,240,240,240,240,240,240,240,240,240,240,240,240,240,240,240,240,240,240,240,240,241,241,241,241,241,241,241,
 241,241,241,241,241,241,241,241,241,241,241,241,241,241,241,241,241,241,241,241,241,241,241,241,241,241,241,241,241,241,241,241,241,241,241,
 241,241,241,241,241,241,241,241,241,241,241,241,241,241,241,241,241,241,241,241,241,241,241,241,2,2,2,2,2,2,2,2,2,2,2,2,2,2,2,2,2,2,2,
 2,2,2,2,2,2,2,2,2,2,2,19,3,3,3,3,3,3,3,3,3,3,3,3,35,3,3,52,4,4,4,68,241,241,241,241,241,241,241,241,241,241,241]
def Ts:List UInt8:=[128,191,160,191,128,159,144,191,128,143,0,0,0,0,0,0,0,0,0,0,0,0,0,0,0,0,0,0,0,0,0,0]
instance glbI:Glb:=⟨[(0,Ox),(1,Ts)]⟩
def al {β:Type}:Nat->Option β->Option β
 | 0,e=>e
 | n+1,e=>S3 e (al n e)
theorem Sy {β:Type}(n:Nat) (e:Option β):al n e=e:=by induction n with
 | zero=>rfl
 | succ n ih=>rw[al,ih,Zz5]
abbrev Bz:Type:=(Option Bool)
abbrev U8:Type:=((Int) ⊕ Bool)
abbrev Gy:Type:=(Int×(Int×Int))
abbrev Ee:Type:=(List (List UInt8))
abbrev Zyr:Type:=(Int×(Int×Bool))
abbrev Dw:Type:=(Int×(List UInt8))
abbrev Df:Type:=((List UInt8)×Int)
abbrev Yq5:Type:=(Bool×(Int×Bool))
abbrev Zyq:Type:=((List UInt8)×Bool)
abbrev Zfp:Type:=(Option (Int×Bool))
abbrev E6:Type:=(Option (List UInt8))
abbrev Nt:Type:=((Int) ⊕ (Unit ⊕ Bool))
abbrev E2:Type:=(List Gy)
abbrev Zyp:Type:=(Int×Ee)
abbrev E1:Type:=(List Dw)
abbrev K1:Type:=((Int×Int) ⊕ (Int ⊕ Int))
abbrev Ge:Type:=(Ee×Int)
abbrev Zns:Type:=((List UInt8)×(Int×Int))
abbrev Znr:Type:=(Dw×Int)
abbrev Y7:Type:=((List UInt8)×(List UInt8))
abbrev U7:Type:=(Option Zyr)
abbrev U6:Type:=(Option Dw)
abbrev Yq4:Type:=(Option Yq5)
abbrev Zfo:Type:=(Option Zyq)
abbrev Znq:Type:=(Int×E2)
abbrev Ns:Type:=(E2×Int)
abbrev Zyo:Type:=(Int×E1)
abbrev Znp:Type:=(Ee×(Int×Int))
abbrev R4:Type:=(E2×Bool)
abbrev Zno:Type:=(Option E2)
abbrev Hj:Type:=(E1×Int)
abbrev Yq3:Type:=(Int×Y7)
abbrev Yq2:Type:=(Dw×(Int×Bool))
abbrev Zfn:Type:=(E2×(Int×Int))
abbrev Znn:Type:=(E1×(Int×Int))
abbrev Zyn:Type:=(Ee×Ee)
abbrev Y6:Type:=(E2×(Bool×Int))
abbrev Zfm:Type:=(E1×(Int×Bool))
abbrev Y5:Type:=(Dw×Dw)
abbrev Zym:Type:=(Option Yq3)
abbrev Zfl:Type:=(E2×Gy)
abbrev Zyl:Type:=((Int×Int) ⊕ (Int ⊕ K1))
abbrev Zfk:Type:=(E1×(Int×(Bool×Int)))
abbrev Zyk:Type:=(Df ⊕ ((List UInt8) ⊕ (List UInt8)))
abbrev Zyj:Type:=(E2×E2)
abbrev Yq1:Type:=(Int×(Ee×E1))
abbrev Zyi:Type:=(E1×E1)
abbrev Zyh:Type:=(Df ⊕ ((List UInt8) ⊕ Zyq))
abbrev Dm:Type:=(Ee×Zfm)
abbrev Znm:Type:=(Ee×Zfk)
abbrev Znl:Type:=(Dm×Int)
abbrev Zyg:Type:=(Dm×Bool)
abbrev U5:Type:=(Option Dm)
abbrev Gd:Type:=((List UInt8)×(Dw×Yq2))
abbrev Dl:Type:=(List Gd)
abbrev Zyf:Type:=(Gd×Int)
abbrev Znk:Type:=(Option Gd)
abbrev Znj:Type:=(Ee×(E1×(Int×(Bool×Gy))))
abbrev Zye:Type:=(Dm×Dw)
abbrev Zyd:Type:=(Int×Dl)
abbrev Gc:Type:=(Dl×Int)
abbrev U4:Type:=(Dl×Bool)
abbrev Zni:Type:=(Option Dl)
abbrev Zyc:Type:=((List UInt8)×Gd)
abbrev Yq0:Type:=((List UInt8)×((Int×E6)×((Int×E6)×(Int×Bool))))
abbrev Znh:Type:=(Dl×(Int×Int))
abbrev Px:Type:=(List Yq0)
abbrev Zyb:Type:=(Int×(Int×((List UInt8)×(Int×(Int×(Int×(Bool×((List UInt8)×(Int×Gy)))))))))
abbrev Zfj:Type:=(Int×((List UInt8)×(Int×(Int×(Int×(Bool×((List UInt8)×(Int×(Int×Gy)))))))))
abbrev Yqz:Type:=(Bool×(Int×((List UInt8)×(Int×(Int×(Int×(Bool×((List UInt8)×(Int×Gy)))))))))
abbrev Zya:Type:=(Y6 ⊕ (R4 ⊕ E2))
abbrev Zng:Type:=(Ge ⊕ (Ee ⊕ Dm))
abbrev Yqy:Type:=(Int×(Dl×E2))
abbrev Du:Type:=(Dl×Znq)
abbrev Znf:Type:=(Du×Int)
abbrev Yqx:Type:=(Du×Bool)
abbrev Zne:Type:=(Option Du)
abbrev Hi:Type:=(Int×(Gd×((List UInt8)×(Int×Gy))))
abbrev Zx9:Type:=(Hj ⊕ (E1 ⊕ Dm))
abbrev Zx8:Type:=(Du×(List UInt8))
abbrev Lz:Type:=(List Hi)
abbrev Zx7:Type:=(Option Yqx)
abbrev Zx6:Type:=(Hi×Int)
abbrev Nr:Type:=(Lz×Int)
abbrev Zx5:Type:=(Int×(Int×Hi))
abbrev Zx4:Type:=(Option Lz)
abbrev Zx3:Type:=(Gd×Gd)
abbrev Zx2:Type:=(Dl×Dl)
abbrev Yqw:Type:=(Int×(Ee×(E1×(Dl×E2))))
abbrev tqZ:Type:=(U4 ⊕ Dl)
abbrev tqY:Type:=(Px×Gd)
abbrev tqX:Type:=(Dl×(Int×((List UInt8)×(Int×(Int×(Int×(Bool×((List UInt8)×(Int×Gy)))))))))
abbrev tqW:Type:=(Dl×(Bool×(Px×Int)))
abbrev tqV:Type:=(Px×(Dl×(Bool×Int)))
abbrev tqU:Type:=(Ee×(E1×(Int×(Bool×(Dl×(Int×Zfn))))))
abbrev tqT:Type:=(Dm×(Du×(Int×Int)))
abbrev tqS:Type:=(Px×Zfj)
abbrev tqQ:Type:=(tqT×Int)
abbrev tqP:Type:=(tqT×Bool)
abbrev tqO:Type:=(Bool×tqT)
abbrev tqN:Type:=(Option tqT)
abbrev tqM:Type:=(Dm×(Int×Lz))
abbrev tqL:Type:=(Px×(Int×((List UInt8)×(Int×(Int×(Int×(Bool×((List UInt8)×(Int×(Int×(Int×Gy)))))))))))
abbrev tqK:Type:=(Dl×Hi)
abbrev tqJ:Type:=(Option tqP)
abbrev tqI:Type:=(Px×Hi)
abbrev tqF:Type:=(Du×Hi)
abbrev tqE:Type:=(Gc ⊕ (Dl ⊕ Du))
abbrev tqD:Type:=(tqT×Hi)
abbrev tqC:Type:=(Nr ⊕ (Lz ⊕ Lz))
def Sh (x:Df):(Option Int):=(cnd (iLt (A6 .i64 x.2 (Ae x.1)) 0) (some (-1)) (some (A6 .i64 x.2 (Ae x.1))))
def Zzr (x:Ge):(Int×Int)->Option K1:=fun (z1:(Int×Int))=>(cnd (iLt z1.2 (Ae x.1)) (bnd (idx x.1 z1.2) (fun z2=>(bnd
 (Sh (z2,z1.1)) (fun z3=>(cnd (iLt z3 0) (some (.inr (.inr (-1)))) (some (.inl (z3,(Ai .i64 z1.2 1))))))))) (some (.inr (.inl z1.1))))
def Zf2 (x:Ge):(Option Int):=(cnd (iLt (A6 .i64 x.2 (Ae x.1)) 0) (some (-1)) (Ao (Ar (Zzr x) ((A6 .i64 x.2 (Ae x.1)),0))
 (fun (z1:Int)=>(some z1))))
def Zao (x:Znr):(Option Int):=(bnd (Sh (x.1.2,x.2)) (fun z1=>(cnd (iLt z1 0) (some (-1)) (some z1))))
def Zzt (x:Hj):(Int×Int)->Option K1:=fun (z1:(Int×Int))=>(cnd (iLt z1.2 (Ae x.1)) (bnd (idx x.1 z1.2) (fun z2=>(bnd (Zao
 ((z2.1,z2.2),z1.1)) (fun z3=>(cnd (iLt z3 0) (some (.inr (.inr (-1)))) (some (.inl (z3,(Ai .i64 z1.2 1))))))))) (some (.inr (.inl z1.1))))
def Zf4 (x:Hj):(Option Int):=(cnd (iLt (A6 .i64 x.2 (Ae x.1)) 0) (some (-1)) (Ao (Ar (Zzt x) ((A6 .i64 x.2 (Ae x.1)),0)) (fun (z1
 : Int)=>(some z1))))
def Zaj (x:Znl):(Option Int):=(bnd (Zf2 (x.1.1,x.2)) (fun z1=>(cnd (iLt z1 0) (some (-1)) (bnd (Zf4 (x.1.2.1,z1)) (fun z2=>(cnd (iLt z2 0) (some (-1)) (some z2)))))))
def Zai (x:Znr):(Option Int):=(bnd (Sh (x.1.2,x.2)) (fun z1=>(cnd (iLt z1 0) (some (-1)) (some z1))))
def Si (x:Zyf):(Option Int):=(cnd (iLt (A6 .i64 x.2 (Ae x.1.1)) 0) (some (-1)) (bnd (Zai ((x.1.2.1.1,x.1.2.1.2),(A6 .i64 x.2 (Ae
 x.1.1)))) (fun z1=>(cnd (iLt z1 0) (some (-1)) (bnd (Zai ((x.1.2.2.1.1,x.1.2.2.1.2),z1)) (fun z2=>(cnd (iLt z2 0) (some (-1)) (some z2))))))))
def Zzs (x:Gc):(Int×Int)->Option K1:=fun (z1:(Int×Int))=>(cnd (iLt z1.2 (Ae x.1)) (bnd (idx x.1 z1.2) (fun z2=>(bnd
 (Si ((z2.1,((z2.2.1.1,z2.2.1.2),((z2.2.2.1.1,z2.2.2.1.2),(z2.2.2.2.1,z2.2.2.2.2)))),z1.1)) (fun z3=>(cnd (iLt z3 0) (some (.inr (.inr (-1)))) (some (.inl
 (z3,(Ai .i64 z1.2 1))))))))) (some (.inr (.inl z1.1))))
def Zal (x:Gc):(Option Int):=(cnd (iLt (A6 .i64 x.2 (Ae x.1)) 0) (some (-1)) (Ao (Ar (Zzs x) ((A6 .i64 x.2 (Ae x.1)),0)) (fun
 (z1:Int)=>(some z1))))
def Zf3 (x:Ns):(Option Int):=(cnd (iLt (A6 .i64 x.2 (Ae x.1)) 0) (some (-1)) (some (A6 .i64 x.2 (Ae x.1))))
def Zan (x:Znf):(Option Int):=(bnd (Zal (x.1.1,x.2)) (fun z1=>(cnd (iLt z1 0) (some (-1)) (bnd (Zf3 (x.1.2.2,z1)) (fun z2=>(cnd (iLt z2 0) (some (-1)) (some z2)))))))
def Zam (x:tqQ):(Option Int):=(bnd (Zaj ((x.1.1.1,(x.1.1.2.1,(x.1.1.2.2.1,x.1.1.2.2.2))),x.2)) (fun z1=>(cnd (iLt z1 0) (some (-1))
 (bnd (Zan ((x.1.2.1.1,(x.1.2.1.2.1,x.1.2.1.2.2)),z1)) (fun z2=>(cnd (iLt z2 0) (some (-1)) (some z2)))))))
def Zak (x:Zx6):(Option Int):=(bnd (Si ((x.1.2.1.1,((x.1.2.1.2.1.1,x.1.2.1.2.1.2),((x.1.2.1.2.2.1.1,x.1.2.1.2.2.1.2),(x.1.2.1.2.2.2.1,
 x.1.2.1.2.2.2.2)))),x.2)) (fun z1=>(cnd (iLt z1 0) (some (-1)) (cnd (iLt (A6 .i64 z1 (Ae x.1.2.2.1)) 0) (some (-1)) (some (A6 .i64 z1 (Ae x.1.2.2.1)))))))
def Zzv (x:(List UInt8)):Df->Option Zyk:=fun (z1:Df)=>(cnd (iLt z1.2 (Ae x)) (bnd (idx x z1.2) (fun z2=>(bnd (idx z1.1 z1.2)
 (fun z3=>(some (.inl ((Ap z1.1 (nOf z1.2) z2),(Ai .i64 z1.2 1)))))))) (some (.inr (.inl z1.1))))
def Qa (x:(List UInt8)):E6:=(chk (iEq (Ae x) (Ae x)) (chk (Lm (Ae x) 1) (Ao (Ar (Zzv x) ((Es (nOf (Ae x)) 0),0)) (fun
 (z1:(List UInt8))=>(some z1)))))
def Zzu (x:Ee):Ge->Option (Ge ⊕ (Ee ⊕ Ee)):=fun (z1:Ge)=>(cnd (iLt z1.2 (Ae x)) (bnd (idx x z1.2) (fun z2=>(bnd
 (Qa z2) (fun z3=>(bnd (idx z1.1 z1.2) (fun z4=>(some (.inl ((Ap z1.1 (nOf z1.2) z3),(Ai .i64 z1.2 1)))))))))) (some (.inr
 (.inl z1.1))))
def Zap (x:Ee):(Option Ee):=(chk (iEq (Ae x) (Ae x)) (chk (Lm (Ae x) 24) (Ao (Ar (Zzu x) ((Es (nOf (Ae x)) []),0))
 (fun (z1:Ee)=>(some z1)))))
def Zas (x:Dw):U6:=(bnd (Qa x.2) (fun z1=>(some (x.1,z1))))
def Zzy (x:E1):Hj->Option (Hj ⊕ (E1 ⊕ E1)):=fun (z1:Hj)=>(cnd (iLt z1.2 (Ae x)) (bnd (idx x z1.2) (fun z2=>(bnd (Zas
 (z2.1,z2.2)) (fun z3=>(bnd (idx z1.1 z1.2) (fun z4=>(some (.inl ((Ap z1.1 (nOf z1.2) (z3.1,z3.2)),(Ai .i64 z1.2 1)))))))))) (some (.inr (.inl
 z1.1))))
def Zat (x:E1):(Option E1):=(chk (iEq (Ae x) (Ae x)) (chk (Lm (Ae x) 32) (Ao (Ar (Zzy x) ((Es (nOf (Ae x)) (0,[])),0))
 (fun (z1:E1)=>(some z1)))))
def V1 (x:Dm):U5:=(bnd (Zap x.1) (fun z1=>(bnd (Zat x.2.1) (fun z2=>(some (z1,(z2,(x.2.2.1,x.2.2.2))))))))
def V0 (x:Dw):U6:=(bnd (Qa x.2) (fun z1=>(some (x.1,z1))))
def Qc (x:Gd):Znk:=(bnd (V0 (x.2.1.1,x.2.1.2)) (fun z1=>(bnd (V0 (x.2.2.1.1,x.2.2.1.2)) (fun z2=>(some (x.1,
 ((z1.1,z1.2),((z2.1,z2.2),(x.2.2.2.1,x.2.2.2.2)))))))))
def Zzx (x:Dl):Gc->Option (Gc ⊕ (Dl ⊕ Dl)):=fun (z1:Gc)=>(cnd (iLt z1.2 (Ae x)) (bnd (idx x z1.2) (fun z2=>(bnd
 (Qc (z2.1,((z2.2.1.1,z2.2.1.2),((z2.2.2.1.1,z2.2.2.1.2),(z2.2.2.2.1,z2.2.2.2.2))))) (fun z3=>(bnd (idx z1.1 z1.2) (fun z4=>(some (.inl ((Ap
 z1.1 (nOf z1.2) (z3.1,((z3.2.1.1,z3.2.1.2),((z3.2.2.1.1,z3.2.2.1.2),(z3.2.2.2.1,z3.2.2.2.2))))),(Ai .i64 z1.2 1)))))))))) (some (.inr (.inl z1.1))))
def Zar (x:Dl):Zni:=(chk (iEq (Ae x) (Ae x)) (chk (Lm (Ae x) 96) (Ao (Ar (Zzx x) ((Es (nOf (Ae x)) ([],((0,[]),((0,[]),
 (0,false))))),0)) (fun (z1:Dl)=>(some z1)))))
def Zf5 (x:Gy):(Option Gy):=(some (x.1,(x.2.1,x.2.2)))
def Zzw (x:E2):Ns->Option (Ns ⊕ (E2 ⊕ E2)):=fun (z1:Ns)=>(cnd (iLt z1.2 (Ae x)) (bnd (idx x z1.2) (fun z2=>(bnd
 (Zf5 (z2.1,(z2.2.1,z2.2.2))) (fun z3=>(bnd (idx z1.1 z1.2) (fun z4=>(some (.inl ((Ap z1.1 (nOf z1.2) (z3.1,(z3.2.1,z3.2.2))),(Ai .i64 z1.2
 1)))))))))) (some (.inr (.inl z1.1))))
def Zaq (x:E2):Zno:=(chk (iEq (Ae x) (Ae x)) (chk (Lm (Ae x) 24) (Ao (Ar (Zzw x) ((Es (nOf (Ae x)) (0,(0,0))),0)) (fun
 (z1:E2)=>(some z1)))))
def V2 (x:Du):Zne:=(bnd (Zar x.1) (fun z1=>(bnd (Zaq x.2.2) (fun z2=>(some (z1,(x.2.1,z2)))))))
def Qd (x:tqT):tqN:=(bnd (V1 (x.1.1,(x.1.2.1,(x.1.2.2.1,x.1.2.2.2)))) (fun z1=>(bnd (V2 (x.2.1.1,(x.2.1.2.1,x.2.1.2.2)))
 (fun z2=>(some ((z1.1,(z1.2.1,(z1.2.2.1,z1.2.2.2))),((z2.1,(z2.2.1,z2.2.2)),(x.2.2.1,x.2.2.2))))))))
def Qb (x:Hi):(Option Hi):=(bnd (Qc (x.2.1.1,((x.2.1.2.1.1,x.2.1.2.1.2),((x.2.1.2.2.1.1,x.2.1.2.2.1.2),(x.2.1.2.2.2.1,x.2.1.2.2.2.2)))))
 (fun z1=>(some (x.1,((z1.1,((z1.2.1.1,z1.2.1.2),((z1.2.2.1.1,z1.2.2.1.2),(z1.2.2.2.1,z1.2.2.2.2)))),(x.2.2.1,(x.2.2.2.1,(x.2.2.2.2.1,(x.2.2.2.2.2.1,
 x.2.2.2.2.2.2)))))))))
def Zbq (x:Dm):Ge->Option Zng:=fun (z1:Ge)=>(cnd (iLt z1.2 (Ae x.1)) (bnd (idx x.1 z1.2) (fun z2=>(chk (A1 (0 +
 z2.length) 1) (chk (A1 (z1.1.length+1) 24) (some (.inl ((Al z1.1 [(Al [] z2)]),(Ai .i64 z1.2 1)))))))) (some (.inr (.inl z1.1))))
def Zbr (x:Dm):Hj->Option Zx9:=fun (z2:Hj)=>(cnd (iLt z2.2 (Ae x.2.1)) (bnd (idx x.2.1 z2.2) (fun z3=>(bnd (idx x.2.1 z2.2)
 (fun z4=>(chk (A1 (0+z4.2.length) 1) (chk (A1 (z2.1.length+1) 32) (some (.inl ((Al z2.1 [(z3.1,(Al [] z4.2))]),(Ai .i64 z2.2 1)))))))))) (some (.inr
 (.inl z2.1))))
def Za2 (x:Dm):U5:=(Ao (Ar (Zbq x) ([],0)) (fun (z1:Ee)=>(Ao (Ar (Zbr x) ([],0)) (fun (z2:E1)=>(some
 (z1,(z2,(x.2.2.1,x.2.2.2))))))))
def Wd (x:Dw):U6:=(chk (A1 (0+x.2.length) 1) (some (x.1,(Al [] x.2))))
def N5 (x:Gd):Znk:=(bnd (Wd (x.2.1.1,x.2.1.2)) (fun z1=>(bnd (Wd (x.2.2.1.1,x.2.2.1.2)) (fun z2=>(some (x.1,
 ((z1.1,z1.2),((z2.1,z2.2),(x.2.2.2.1,x.2.2.2.2)))))))))
def Zzz (x:Du):Gc->Option tqE:=fun (z1:Gc)=>(cnd (iLt z1.2 (Ae x.1)) (bnd (idx x.1 z1.2) (fun z2=>(bnd (N5 (z2.1,
 ((z2.2.1.1,z2.2.1.2),((z2.2.2.1.1,z2.2.2.1.2),(z2.2.2.2.1,z2.2.2.2.2))))) (fun z3=>(chk (A1 (z1.1.length+1) 96) (some (.inl ((Al z1.1 [(z3.1,((z3.2.1.1,
 z3.2.1.2),((z3.2.2.1.1,z3.2.2.1.2),(z3.2.2.2.1,z3.2.2.2.2))))]),(Ai .i64 z1.2 1))))))))) (some (.inr (.inl z1.1))))
def Sq (x:Du):Zne:=(al 2 (chk (A1 (0+x.2.2.length) 24) (Ao (Ar (Zzz x) ([],0)) (fun (z1:Dl)=>(some (z1,(x.2.1,(Al []
 x.2.2))))))))
def Zf8 (x:tqT):tqN:=(bnd (Za2 x.1) (fun z1=>(bnd (Sq x.2.1) (fun z2=>(some (z1,(z2,x.2.2)))))))
def Bv (x:Gy):Bz:=(cnd (iGe x.1 x.2.1) (some (iLe x.1 x.2.2)) (some false))
def Zbm (x:Dm):(Int)->Option Nt:=fun (z1:Int)=>(cnd (iLt z1 (Ae x.1)) (bnd (idx x.1 z1) (fun z2=>(cnd (iGt (Ae z2) 120)
 (some (.inr (.inr false))) (some (.inl (Ai .i64 z1 1)))))) (some (.inr (.inl ()))))
def Zbn (x:Dm):(Int)->Option Nt:=fun (z2:Int)=>(cnd (iLt z2 (Ae x.2.1)) (bnd (idx x.2.1 z2) (fun z3=>(bnd (Bv (z3.1,(0,
 (A6 .i64 (Ae x.1) 1)))) (fun z4=>(cnd (Ah z4) (some (.inr (.inr false))) (bnd (idx x.2.1 z2) (fun z5=>(cnd (iGt (Ae z5.2) 120) (some (.inr (.inr
 false))) (some (.inl (Ai .i64 z2 1))))))))))) (some (.inr (.inl ()))))
def V3 (x:Dm):Bz:=(Ao (Ar (Zbm x) 0) (fun (z1:Unit)=>(Ao (Ar (Zbn x) 0) (fun (z2:Unit)=>(bnd (Bv ((Ae
 x.1),(1,64))) (fun z3=>(cnd z3 (cnd (iLe (Ae x.2.1) 40) (bnd (Bv (x.2.2.1,((-1),1000))) (fun z4=>(some z4))) (some false)) (some false))))))))
def Wl (x:(List UInt8)):(Int)->Option Nt:=fun (z1:Int)=>(cnd (iLt z1 (Ae x)) (bnd (idx x z1) (fun z2=>(bnd (Bv ((Ak .i64
 (y2i z2)),(97,122))) (fun z3=>(cnd (Ah z3) (bnd (idx x z1) (fun z4=>(bnd (Bv ((Ak .i64 (y2i z4)),(48,57))) (fun z5=>(cnd (Ah
 z5) (some (.inr (.inr false))) (some (.inl (Ai .i64 z1 1)))))))) (some (.inl (Ai .i64 z1 1)))))))) (some (.inr (.inl ()))))
def Sj (x:(List UInt8)):Bz:=(Ao (Ar (Wl x) 0) (fun (z1:Unit)=>(bnd (Bv ((Ae x),(1,6))) (fun z2=>(some z2)))))
def Da (x:Gd):Bz:=(some (iEq (Ax .i64 x.2.2.2.1 1) 1))
def N6 (x:Dw):Bz:=(cnd (iEq x.1 0) (some (iEq (Ae x.2) 0)) (some false))
def Cq (x:Gd):Bz:=(some (iEq (Ax .i64 x.2.2.2.1 2) 2))
def Wc (x:Int):Bz:=(bnd (Bv (x,(0,5))) (fun z1=>(some z1)))
def Ma (x:Dw):Bz:=(bnd (Wc x.1) (fun z1=>(cnd z1 (some (iLe (Ae x.2) 20)) (some false))))
def Za4 (x:UInt8):(Option Int):=(cnd (iLt (y2i x) (y2i (u8 128))) (some 1) (bnd (Bv ((Ak .i64 (y2i x)),(194,223))) (fun z1=>(cnd z1
 (some 2) (bnd (Bv ((Ak .i64 (y2i x)),(224,239))) (fun z2=>(cnd z2 (some 3) (bnd (Bv ((Ak .i64 (y2i x)),(240,244))) (fun z3=>(cnd z3
 (some 4) (some 0)))))))))))
def Sn (x:Int):Bz:=(bnd (Bv (x,(0,1114111))) (fun z1=>(cnd z1 (bnd (Bv (x,(55296,57343))) (fun z2=>(some (Ah
 z2)))) (some false))))
def Sl (x:Df):E6:=(chk (A1 (0+x.1.length) 1) (bnd (Sn x.2) (fun z1=>(cnd (Ah z1) (some (Al [] x.1)) (cnd (iLe x.2 127)
 (chk (A1 ((Al [] x.1).length+1) 1) (some (Al (Al [] x.1) [(u8 (Ak .u8 x.2))]))) (cnd (iLe x.2 2047) (chk (A1 ((Al [] x.1).length+2) 1) (some (Al (Al []
 x.1) [(u8 (Ak .u8 (iOr .i64 192 (Bp .i64 x.2 6)))),(u8 (Ak .u8 (iOr .i64 128 (Ax .i64 x.2 63))))]))) (cnd (iLe x.2 65535) (chk (A1 ((Al [] x.1).length+3) 1)
 (some (Al (Al [] x.1) [(u8 (Ak .u8 (iOr .i64 224 (Bp .i64 x.2 12)))),(u8 (Ak .u8 (iOr .i64 128 (Ax .i64 (Bp .i64 x.2 6) 63)))),(u8 (Ak .u8 (iOr .i64 128
 (Ax .i64 x.2 63))))]))) (chk (A1 ((Al [] x.1).length+4) 1) (some (Al (Al [] x.1) [(u8 (Ak .u8 (iOr .i64 240 (Bp .i64 x.2 18)))),(u8 (Ak .u8 (iOr .i64 128
 (Ax .i64 (Bp .i64 x.2 12) 63)))),(u8 (Ak .u8 (iOr .i64 128 (Ax .i64 (Bp .i64 x.2 6) 63)))),(u8 (Ak .u8 (iOr .i64 128 (Ax .i64 x.2 63))))]))))))))))
def Mh (x:Df) (z3:Int):(Int×Int)->Option ((Int×Int) ⊕ (Int ⊕ Zyr)):=fun (z6:(Int×Int))=>(cnd (iLt z6.2 z3) (bnd (idx x.1 (Ai .i64
 x.2 z6.2)) (fun z7=>(cnd (iNe (y2i (u8 (Ax .u8 (y2i z7) (y2i (u8 192))))) (y2i (u8 128))) (some (.inr (.inr (0,(0,false))))) (bnd (idx x.1 (Ai .i64 x.2 z6.2))
 (fun z8=>(some (.inl ((iOr .i64 (B4 .i64 z6.1 6) (Ak .i64 (y2i (u8 (Ax .u8 (y2i z8) (y2i (u8 63))))))),(Ai .i64 z6.2 1))))))))) (some (.inr (.inl z6.1))))
def Zay (x:Df):U7:=(bnd (Bv (x.2,(0,(A6 .i64 (Ae x.1) 1)))) (fun z1=>(cnd (Ah z1) (some (0,(0,false))) (bnd (idx x.1 x.2)
 (fun z2=>(bnd (Za4 z2) (fun z3=>(cnd (iEq z3 0) (some (0,(0,false))) (cnd (iGt z3 (A6 .i64 (Ae x.1) x.2)) (some (0,(0,false))) (bnd (idx x.1
 x.2) (fun z4=>(Ao (cnd (iGt z3 1) (chk (iLe 0 (Ak .u64 z3)) (some (.inl (Ax .i64 (Ak .i64 (y2i z4)) (Bp .i64 127 (Ak .u64 z3)))))) (some (.inl (Ak
 .i64 (y2i z4))))) (fun (z5:Int)=>(Ao (Ar (Mh x z3) (z5,1)) (fun (z6:Int)=>(bnd (Sn z6) (fun z7=>(cnd (Ah z7) (some (0,(0,false)))
 (bnd (Sl ([],z6)) (fun z8=>(chk (Dx x.2 (Ai .i64 x.2 z3) (Ae x.1)) (cnd (Ah (sEq z8 (Bq ((nOf (Ai .i64 x.2 z3))-(nOf x.2)) (Dk
 (nOf x.2) x.1)))) (some (0,(0,false))) (some (z6,((Ai .i64 x.2 z3),true)))))))))))))))))))))))))
def Za0 (x:(Int×Int)):Zfp:=(cnd (iEq x.1 164) (bnd (Bv (x.2,(161,243))) (fun z1=>(cnd z1 (some ((A6 .i64 (Ai .i64 12353 x.2)
 161),true)) (cnd (iEq x.1 165) (bnd (Bv (x.2,(161,246))) (fun z2=>(cnd z2 (some ((A6 .i64 (Ai .i64 12449 x.2) 161),true)) (some (0,false))))) (some (0,
 false)))))) (cnd (iEq x.1 165) (bnd (Bv (x.2,(161,246))) (fun z1=>(cnd z1 (some ((A6 .i64 (Ai .i64 12449 x.2) 161),true)) (some (0,false))))) (some (0,
 false))))
def Zax (x:Df):U7:=(bnd (Bv (x.2,(0,(A6 .i64 (Ae x.1) 1)))) (fun z1=>(cnd (Ah z1) (some (0,(0,false))) (bnd (idx x.1 x.2)
 (fun z2=>(cnd (iLt (y2i z2) (y2i (u8 128))) (bnd (idx x.1 x.2) (fun z3=>(some ((Ak .i64 (y2i z3)),((Ai .i64 x.2 1),true))))) (cnd (iGe (Ai .i64
 x.2 1) (Ae x.1)) (some (0,(0,false))) (bnd (idx x.1 x.2) (fun z3=>(bnd (idx x.1 (Ai .i64 x.2 1)) (fun z4=>(bnd (Za0 ((Ak .i64 (y2i z3)),
 (Ak .i64 (y2i z4)))) (fun z5=>(cnd (Ah z5.2) (some (0,(0,false))) (some (z5.1,((Ai .i64 x.2 2),true)))))))))))))))))
def Zof (x:Int):(Option Int):=(cnd (iEq x 164) (some 8364) (cnd (iEq x 166) (some 352) (cnd (iEq x 168) (some 353) (cnd (iEq x 180) (some 381) (cnd (iEq
 x 184) (some 382) (cnd (iEq x 188) (some 338) (cnd (iEq x 189) (some 339) (cnd (iEq x 190) (some 376) (some x)))))))))
def Zoe (x:Int):(Option Int):=(cnd (iGe x 224) (bnd (idx [1102,1072,1073,1094,1076,1077,1092,1075,1093,1080,1081,1082,1083,1084,1085,1086,
 1087,1103,1088,1089,1090,1091,1078,1074,1100,1099,1079,1096,1101,1097,1095,1098] (A6 .i64 x 224)) (fun z1=>(some (A6 .i64 z1 32)))) (cnd (iGe x 192)
 (bnd (idx [1102,1072,1073,1094,1076,1077,1092,1075,1093,1080,1081,1082,1083,1084,1085,1086,1087,1103,1088,1089,1090,1091,1078,1074,1100,1099,1079,1096,
 1101,1097,1095,1098] (A6 .i64 x 192)) (fun z1=>(some z1))) (cnd (iEq x 163) (some 1105) (cnd (iEq x 179) (some 1025) (some (-1))))))
def Zog (x:Int):(Option Int):=(cnd (iGe x 160) (some x) (bnd (idx [8364,(-1),8218,402,8222,8230,8224,8225,710,8240,352,8249,338,(-1),381,
 (-1),(-1),8216,8217,8220,8221,8226,8211,8212,732,8482,353,8250,339,(-1),382,376] (A6 .i64 x 128)) (fun z1=>(some z1))))
def Qe (x:(Int×Int)):Zfp:=(bnd (Bv (x.1,(1,4))) (fun z1=>(cnd (Ah z1) (some (0,false)) (bnd (Bv (x.2,(0,255))) (fun
 z2=>(cnd (Ah z2) (some (0,false)) (Ao (cnd (iGe x.2 128) (cnd (iEq x.1 2) (bnd (Zof x.2) (fun z3=>(some (.inl z3)))) (cnd (iEq x.1 3) (bnd
 (Zoe x.2) (fun z3=>(some (.inl z3)))) (cnd (iEq x.1 4) (bnd (Zog x.2) (fun z3=>(some (.inl z3)))) (some (.inl x.2))))) (some (.inl x.2))) (fun (z3
 : Int)=>(cnd (iLt z3 0) (some (0,false)) (some (z3,true)))))))))))
def Za5 (x:(Int×Df)):U7:=(cnd (iEq x.1 0) (bnd (Zay (x.2.1,x.2.2)) (fun z1=>(some (z1.1,(z1.2.1,z1.2.2))))) (cnd (iEq x.1 5)
 (bnd (Zax (x.2.1,x.2.2)) (fun z1=>(some (z1.1,(z1.2.1,z1.2.2))))) (bnd (idx x.2.1 x.2.2) (fun z1=>(bnd (Qe (x.1,(Ak .i64 (y2i
 z1)))) (fun z2=>(some (z2.1,((Ai .i64 x.2.2 1),z2.2)))))))))
def Zgp (x:Dw):Df->Option Zyh:=fun (z2:Df)=>(cnd (iLt z2.2 (Ae x.2)) (bnd (Za5 (x.1,(x.2,z2.2))) (fun z3=>(cnd (Ah
 z3.2.2) (some (.inr (.inr ([],false)))) (bnd (Sl (z2.1,z3.1)) (fun z4=>(some (.inl (z4,z3.2.1)))))))) (some (.inr (.inl z2.1))))
def Zaw (x:Dw):Zfo:=(bnd (Wc x.1) (fun z1=>(cnd (Ah z1) (some ([],false)) (Ao (Ar (Zgp x) ([],0)) (fun (z2:(List
 UInt8))=>(some (z2,true)))))))
def H8 (x:Dw):Zfo:=(bnd (Ma (x.1,x.2)) (fun z1=>(cnd (Ah z1) (some ([],false)) (bnd (Zaw (x.1,x.2)) (fun z2
 => (some (z2.1,z2.2)))))))
def Bn (x:Y5):Bz:=(bnd (H8 (x.1.1,x.1.2)) (fun z1=>(bnd (H8 (x.2.1,x.2.2)) (fun z2=>(cnd z1.2 (cnd
 z2.2 (some (sEq z1.1 z2.1)) (some false)) (some false))))))
def Mb (x:Gd):Bz:=(bnd (Sj x.1) (fun z1=>(cnd (Ah z1) (some false) (bnd (Bv (x.2.2.2.1,(1,3))) (fun z2=>(cnd
 (Ah z2) (some false) (bnd (Da (x.1,((x.2.1.1,x.2.1.2),((x.2.2.1.1,x.2.2.1.2),(x.2.2.2.1,x.2.2.2.2))))) (fun z3=>(cnd (Ah z3) (bnd (N6
 (x.2.1.1,x.2.1.2)) (fun z4=>(cnd (Ah z4) (some false) (bnd (Cq (x.1,((x.2.1.1,x.2.1.2),((x.2.2.1.1,x.2.2.1.2),(x.2.2.2.1,x.2.2.2.2))))) (fun z5=>(cnd (Ah z5) (bnd (N6 (x.2.2.1.1,x.2.2.1.2)) (fun z6=>(cnd (Ah z6) (some false) (bnd (H8 (x.2.1.1,x.2.1.2)) (fun z7=>(bnd
 (H8 (x.2.2.1.1,x.2.2.1.2)) (fun z8=>(bnd (Da (x.1,((x.2.1.1,x.2.1.2),((x.2.2.1.1,x.2.2.1.2),(x.2.2.2.1,x.2.2.2.2))))) (fun z9=>(cnd
 z9 (bnd (Bv (x.2.1.1,(1,5))) (fun z10=>(cnd (Ah z10) (some false) (bnd (Ma (x.2.1.1,x.2.1.2)) (fun z11=>(cnd (Ah z11) (some false) (bnd
 (Cq (x.1,((x.2.1.1,x.2.1.2),((x.2.2.1.1,x.2.2.1.2),(x.2.2.2.1,x.2.2.2.2))))) (fun z12=>(cnd z12 (cnd (iNe x.2.2.1.1 0) (some false) (cnd (Ah z8.2) (some
 false) (bnd (Da (x.1,((x.2.1.1,x.2.1.2),((x.2.2.1.1,x.2.2.1.2),(x.2.2.2.1,x.2.2.2.2))))) (fun z13=>(cnd z13 (cnd (Ah z7.2) (cnd (Ah x.2.2.2.2) (some
 false) (bnd (Cq (x.1,((x.2.1.1,x.2.1.2),((x.2.2.1.1,x.2.2.1.2),(x.2.2.2.1,x.2.2.2.2))))) (fun z14=>(cnd z14 (some false) (cnd (iNe x.2.2.2.1 3) (some
 true) (bnd (Bn ((x.2.1.1,x.2.1.2),(x.2.2.1.1,x.2.2.1.2))) (fun z15=>(some z15)))))))) (cnd (iNe x.2.2.2.1 3) (some true) (bnd (Bn ((x.2.1.1,
 x.2.1.2),(x.2.2.1.1,x.2.2.1.2))) (fun z14=>(some z14))))) (cnd (iNe x.2.2.2.1 3) (some true) (bnd (Bn ((x.2.1.1,x.2.1.2),(x.2.2.1.1,x.2.2.1.2))) (fun
 z14=>(some z14))))))))) (bnd (Da (x.1,((x.2.1.1,x.2.1.2),((x.2.2.1.1,x.2.2.1.2),(x.2.2.2.1,x.2.2.2.2))))) (fun z13=>(cnd z13 (cnd (Ah z7.2)
 (cnd (Ah x.2.2.2.2) (some false) (bnd (Cq (x.1,((x.2.1.1,x.2.1.2),((x.2.2.1.1,x.2.2.1.2),(x.2.2.2.1,x.2.2.2.2))))) (fun z14=>(cnd z14 (some false) (cnd
 (iNe x.2.2.2.1 3) (some true) (bnd (Bn ((x.2.1.1,x.2.1.2),(x.2.2.1.1,x.2.2.1.2))) (fun z15=>(some z15)))))))) (cnd (iNe x.2.2.2.1 3) (some true) (bnd
 (Bn ((x.2.1.1,x.2.1.2),(x.2.2.1.1,x.2.2.1.2))) (fun z14=>(some z14))))) (cnd (iNe x.2.2.2.1 3) (some true) (bnd (Bn ((x.2.1.1,x.2.1.2),
 (x.2.2.1.1,x.2.2.1.2))) (fun z14=>(some z14)))))))))))))))) (bnd (Cq (x.1,((x.2.1.1,x.2.1.2),((x.2.2.1.1,x.2.2.1.2),(x.2.2.2.1,x.2.2.2.2))))) (fun z10=>(cnd z10 (cnd (iNe x.2.2.1.1 0) (some false) (cnd (Ah z8.2) (some false) (bnd (Da (x.1,((x.2.1.1,x.2.1.2),((x.2.2.1.1,x.2.2.1.2),(x.2.2.2.1,x.2.2.2.2)))))
 (fun z11=>(cnd z11 (cnd (Ah z7.2) (cnd (Ah x.2.2.2.2) (some false) (bnd (Cq (x.1,((x.2.1.1,x.2.1.2),((x.2.2.1.1,x.2.2.1.2),(x.2.2.2.1,x.2.2.2.2)))))
 (fun z12=>(cnd z12 (some false) (cnd (iNe x.2.2.2.1 3) (some true) (bnd (Bn ((x.2.1.1,x.2.1.2),(x.2.2.1.1,x.2.2.1.2))) (fun z13=>(some
 z13)))))))) (cnd (iNe x.2.2.2.1 3) (some true) (bnd (Bn ((x.2.1.1,x.2.1.2),(x.2.2.1.1,x.2.2.1.2))) (fun z12=>(some z12))))) (cnd (iNe x.2.2.2.1 3) (some
 true) (bnd (Bn ((x.2.1.1,x.2.1.2),(x.2.2.1.1,x.2.2.1.2))) (fun z12=>(some z12))))))))) (bnd (Da (x.1,((x.2.1.1,x.2.1.2),((x.2.2.1.1,x.2.2.1.2),
 (x.2.2.2.1,x.2.2.2.2))))) (fun z11=>(cnd z11 (cnd (Ah z7.2) (cnd (Ah x.2.2.2.2) (some false) (bnd (Cq (x.1,((x.2.1.1,x.2.1.2),((x.2.2.1.1,x.2.2.1.2),
 (x.2.2.2.1,x.2.2.2.2))))) (fun z12=>(cnd z12 (some false) (cnd (iNe x.2.2.2.1 3) (some true) (bnd (Bn ((x.2.1.1,x.2.1.2),(x.2.2.1.1,x.2.2.1.2))) (fun
 z13=>(some z13)))))))) (cnd (iNe x.2.2.2.1 3) (some true) (bnd (Bn ((x.2.1.1,x.2.1.2),(x.2.2.1.1,x.2.2.1.2))) (fun z12=>(some z12))))) (cnd
 (iNe x.2.2.2.1 3) (some true) (bnd (Bn ((x.2.1.1,x.2.1.2),(x.2.2.1.1,x.2.2.1.2))) (fun z12=>(some z12)))))))))))))))))))) (bnd (H8 (x.2.1.1,
 x.2.1.2)) (fun z6=>(bnd (H8 (x.2.2.1.1,x.2.2.1.2)) (fun z7=>(bnd (Da (x.1,((x.2.1.1,x.2.1.2),((x.2.2.1.1,x.2.2.1.2),(x.2.2.2.1,
 x.2.2.2.2))))) (fun z8=>(cnd z8 (bnd (Bv (x.2.1.1,(1,5))) (fun z9=>(cnd (Ah z9) (some false) (bnd (Ma (x.2.1.1,x.2.1.2)) (fun z10=>(cnd (Ah z10) (some false) (bnd (Cq (x.1,((x.2.1.1,x.2.1.2),((x.2.2.1.1,x.2.2.1.2),(x.2.2.2.1,x.2.2.2.2))))) (fun z11=>(cnd z11 (cnd (iNe
 x.2.2.1.1 0) (some false) (cnd (Ah z7.2) (some false) (bnd (Da (x.1,((x.2.1.1,x.2.1.2),((x.2.2.1.1,x.2.2.1.2),(x.2.2.2.1,x.2.2.2.2))))) (fun z12=>(cnd
 z12 (cnd (Ah z6.2) (cnd (Ah x.2.2.2.2) (some false) (bnd (Cq (x.1,((x.2.1.1,x.2.1.2),((x.2.2.1.1,x.2.2.1.2),(x.2.2.2.1,x.2.2.2.2))))) (fun z13=>(cnd
 z13 (some false) (cnd (iNe x.2.2.2.1 3) (some true) (bnd (Bn ((x.2.1.1,x.2.1.2),(x.2.2.1.1,x.2.2.1.2))) (fun z14=>(some z14)))))))) (cnd (iNe x.2.2.2.1 3)
 (some true) (bnd (Bn ((x.2.1.1,x.2.1.2),(x.2.2.1.1,x.2.2.1.2))) (fun z13=>(some z13))))) (cnd (iNe x.2.2.2.1 3) (some true) (bnd (Bn ((x.2.1.1,
 x.2.1.2),(x.2.2.1.1,x.2.2.1.2))) (fun z13=>(some z13))))))))) (bnd (Da (x.1,((x.2.1.1,x.2.1.2),((x.2.2.1.1,x.2.2.1.2),(x.2.2.2.1,x.2.2.2.2))))) (fun
 z12=>(cnd z12 (cnd (Ah z6.2) (cnd (Ah x.2.2.2.2) (some false) (bnd (Cq (x.1,((x.2.1.1,x.2.1.2),((x.2.2.1.1,x.2.2.1.2),(x.2.2.2.1,x.2.2.2.2))))) (fun
 z13=>(cnd z13 (some false) (cnd (iNe x.2.2.2.1 3) (some true) (bnd (Bn ((x.2.1.1,x.2.1.2),(x.2.2.1.1,x.2.2.1.2))) (fun z14=>(some z14))))))))
 (cnd (iNe x.2.2.2.1 3) (some true) (bnd (Bn ((x.2.1.1,x.2.1.2),(x.2.2.1.1,x.2.2.1.2))) (fun z13=>(some z13))))) (cnd (iNe x.2.2.2.1 3) (some true) (bnd
 (Bn ((x.2.1.1,x.2.1.2),(x.2.2.1.1,x.2.2.1.2))) (fun z13=>(some z13)))))))))))))))) (bnd (Cq (x.1,((x.2.1.1,x.2.1.2),((x.2.2.1.1,x.2.2.1.2),
 (x.2.2.2.1,x.2.2.2.2))))) (fun z9=>(cnd z9 (cnd (iNe x.2.2.1.1 0) (some false) (cnd (Ah z7.2) (some false) (bnd (Da (x.1,((x.2.1.1,x.2.1.2),((x.2.2.1.1,
 x.2.2.1.2),(x.2.2.2.1,x.2.2.2.2))))) (fun z10=>(cnd z10 (cnd (Ah z6.2) (cnd (Ah x.2.2.2.2) (some false) (bnd (Cq (x.1,((x.2.1.1,x.2.1.2),((x.2.2.1.1,
 x.2.2.1.2),(x.2.2.2.1,x.2.2.2.2))))) (fun z11=>(cnd z11 (some false) (cnd (iNe x.2.2.2.1 3) (some true) (bnd (Bn ((x.2.1.1,x.2.1.2),(x.2.2.1.1,
 x.2.2.1.2))) (fun z12=>(some z12)))))))) (cnd (iNe x.2.2.2.1 3) (some true) (bnd (Bn ((x.2.1.1,x.2.1.2),(x.2.2.1.1,x.2.2.1.2))) (fun z11=>(some
 z11))))) (cnd (iNe x.2.2.2.1 3) (some true) (bnd (Bn ((x.2.1.1,x.2.1.2),(x.2.2.1.1,x.2.2.1.2))) (fun z11=>(some z11))))))))) (bnd (Da (x.1,
 ((x.2.1.1,x.2.1.2),((x.2.2.1.1,x.2.2.1.2),(x.2.2.2.1,x.2.2.2.2))))) (fun z10=>(cnd z10 (cnd (Ah z6.2) (cnd (Ah x.2.2.2.2) (some false) (bnd (Cq (x.1,
 ((x.2.1.1,x.2.1.2),((x.2.2.1.1,x.2.2.1.2),(x.2.2.2.1,x.2.2.2.2))))) (fun z11=>(cnd z11 (some false) (cnd (iNe x.2.2.2.1 3) (some true) (bnd (Bn
 ((x.2.1.1,x.2.1.2),(x.2.2.1.1,x.2.2.1.2))) (fun z12=>(some z12)))))))) (cnd (iNe x.2.2.2.1 3) (some true) (bnd (Bn ((x.2.1.1,x.2.1.2),(x.2.2.1.1,
 x.2.2.1.2))) (fun z11=>(some z11))))) (cnd (iNe x.2.2.2.1 3) (some true) (bnd (Bn ((x.2.1.1,x.2.1.2),(x.2.2.1.1,x.2.2.1.2))) (fun z11=>(some
 z11))))))))))))))))))))))) (bnd (Cq (x.1,((x.2.1.1,x.2.1.2),((x.2.2.1.1,x.2.2.1.2),(x.2.2.2.1,x.2.2.2.2))))) (fun z4=>(cnd (Ah z4) (bnd (N6
 (x.2.2.1.1,x.2.2.1.2)) (fun z5=>(cnd (Ah z5) (some false) (bnd (H8 (x.2.1.1,x.2.1.2)) (fun z6=>(bnd (H8 (x.2.2.1.1,x.2.2.1.2)) (fun
 z7=>(bnd (Da (x.1,((x.2.1.1,x.2.1.2),((x.2.2.1.1,x.2.2.1.2),(x.2.2.2.1,x.2.2.2.2))))) (fun z8=>(cnd z8 (bnd (Bv (x.2.1.1,(1,5))) (fun
 z9=>(cnd (Ah z9) (some false) (bnd (Ma (x.2.1.1,x.2.1.2)) (fun z10=>(cnd (Ah z10) (some false) (bnd (Cq (x.1,((x.2.1.1,x.2.1.2),
 ((x.2.2.1.1,x.2.2.1.2),(x.2.2.2.1,x.2.2.2.2))))) (fun z11=>(cnd z11 (cnd (iNe x.2.2.1.1 0) (some false) (cnd (Ah z7.2) (some false) (bnd (Da (x.1,
 ((x.2.1.1,x.2.1.2),((x.2.2.1.1,x.2.2.1.2),(x.2.2.2.1,x.2.2.2.2))))) (fun z12=>(cnd z12 (cnd (Ah z6.2) (cnd (Ah x.2.2.2.2) (some false) (bnd (Cq (x.1,
 ((x.2.1.1,x.2.1.2),((x.2.2.1.1,x.2.2.1.2),(x.2.2.2.1,x.2.2.2.2))))) (fun z13=>(cnd z13 (some false) (cnd (iNe x.2.2.2.1 3) (some true) (bnd (Bn
 ((x.2.1.1,x.2.1.2),(x.2.2.1.1,x.2.2.1.2))) (fun z14=>(some z14)))))))) (cnd (iNe x.2.2.2.1 3) (some true) (bnd (Bn ((x.2.1.1,x.2.1.2),(x.2.2.1.1,
 x.2.2.1.2))) (fun z13=>(some z13))))) (cnd (iNe x.2.2.2.1 3) (some true) (bnd (Bn ((x.2.1.1,x.2.1.2),(x.2.2.1.1,x.2.2.1.2))) (fun z13=>(some
 z13))))))))) (bnd (Da (x.1,((x.2.1.1,x.2.1.2),((x.2.2.1.1,x.2.2.1.2),(x.2.2.2.1,x.2.2.2.2))))) (fun z12=>(cnd z12 (cnd (Ah z6.2) (cnd (Ah x.2.2.2.2)
 (some false) (bnd (Cq (x.1,((x.2.1.1,x.2.1.2),((x.2.2.1.1,x.2.2.1.2),(x.2.2.2.1,x.2.2.2.2))))) (fun z13=>(cnd z13 (some false) (cnd (iNe x.2.2.2.1 3)
 (some true) (bnd (Bn ((x.2.1.1,x.2.1.2),(x.2.2.1.1,x.2.2.1.2))) (fun z14=>(some z14)))))))) (cnd (iNe x.2.2.2.1 3) (some true) (bnd (Bn
 ((x.2.1.1,x.2.1.2),(x.2.2.1.1,x.2.2.1.2))) (fun z13=>(some z13))))) (cnd (iNe x.2.2.2.1 3) (some true) (bnd (Bn ((x.2.1.1,x.2.1.2),(x.2.2.1.1,
 x.2.2.1.2))) (fun z13=>(some z13)))))))))))))))) (bnd (Cq (x.1,((x.2.1.1,x.2.1.2),((x.2.2.1.1,x.2.2.1.2),(x.2.2.2.1,x.2.2.2.2))))) (fun z9 =>
 (cnd z9 (cnd (iNe x.2.2.1.1 0) (some false) (cnd (Ah z7.2) (some false) (bnd (Da (x.1,((x.2.1.1,x.2.1.2),((x.2.2.1.1,x.2.2.1.2),(x.2.2.2.1,x.2.2.2.2))))) (fun z10=>(cnd z10 (cnd (Ah z6.2) (cnd (Ah x.2.2.2.2) (some false) (bnd (Cq (x.1,((x.2.1.1,x.2.1.2),((x.2.2.1.1,x.2.2.1.2),(x.2.2.2.1,x.2.2.2.2))))) (fun z11=>(cnd z11 (some false) (cnd (iNe x.2.2.2.1 3) (some true) (bnd (Bn ((x.2.1.1,x.2.1.2),(x.2.2.1.1,x.2.2.1.2))) (fun z12=>(some z12)))))))) (cnd
 (iNe x.2.2.2.1 3) (some true) (bnd (Bn ((x.2.1.1,x.2.1.2),(x.2.2.1.1,x.2.2.1.2))) (fun z11=>(some z11))))) (cnd (iNe x.2.2.2.1 3) (some true) (bnd
 (Bn ((x.2.1.1,x.2.1.2),(x.2.2.1.1,x.2.2.1.2))) (fun z11=>(some z11))))))))) (bnd (Da (x.1,((x.2.1.1,x.2.1.2),((x.2.2.1.1,x.2.2.1.2),
 (x.2.2.2.1,x.2.2.2.2))))) (fun z10=>(cnd z10 (cnd (Ah z6.2) (cnd (Ah x.2.2.2.2) (some false) (bnd (Cq (x.1,((x.2.1.1,x.2.1.2),((x.2.2.1.1,x.2.2.1.2),
 (x.2.2.2.1,x.2.2.2.2))))) (fun z11=>(cnd z11 (some false) (cnd (iNe x.2.2.2.1 3) (some true) (bnd (Bn ((x.2.1.1,x.2.1.2),(x.2.2.1.1,x.2.2.1.2))) (fun
 z12=>(some z12)))))))) (cnd (iNe x.2.2.2.1 3) (some true) (bnd (Bn ((x.2.1.1,x.2.1.2),(x.2.2.1.1,x.2.2.1.2))) (fun z11=>(some z11))))) (cnd
 (iNe x.2.2.2.1 3) (some true) (bnd (Bn ((x.2.1.1,x.2.1.2),(x.2.2.1.1,x.2.2.1.2))) (fun z11=>(some z11)))))))))))))))))))) (bnd (H8 (x.2.1.1,
 x.2.1.2)) (fun z5=>(bnd (H8 (x.2.2.1.1,x.2.2.1.2)) (fun z6=>(bnd (Da (x.1,((x.2.1.1,x.2.1.2),((x.2.2.1.1,x.2.2.1.2),(x.2.2.2.1,
 x.2.2.2.2))))) (fun z7=>(cnd z7 (bnd (Bv (x.2.1.1,(1,5))) (fun z8=>(cnd (Ah z8) (some false) (bnd (Ma (x.2.1.1,x.2.1.2)) (fun z9
 => (cnd (Ah z9) (some false) (bnd (Cq (x.1,((x.2.1.1,x.2.1.2),((x.2.2.1.1,x.2.2.1.2),(x.2.2.2.1,x.2.2.2.2))))) (fun z10=>(cnd z10 (cnd (iNe x.2.2.1.1 0)
 (some false) (cnd (Ah z6.2) (some false) (bnd (Da (x.1,((x.2.1.1,x.2.1.2),((x.2.2.1.1,x.2.2.1.2),(x.2.2.2.1,x.2.2.2.2))))) (fun z11=>(cnd z11 (cnd (Ah
 z5.2) (cnd (Ah x.2.2.2.2) (some false) (bnd (Cq (x.1,((x.2.1.1,x.2.1.2),((x.2.2.1.1,x.2.2.1.2),(x.2.2.2.1,x.2.2.2.2))))) (fun z12=>(cnd z12 (some false)
 (cnd (iNe x.2.2.2.1 3) (some true) (bnd (Bn ((x.2.1.1,x.2.1.2),(x.2.2.1.1,x.2.2.1.2))) (fun z13=>(some z13)))))))) (cnd (iNe x.2.2.2.1 3) (some true) (bnd
 (Bn ((x.2.1.1,x.2.1.2),(x.2.2.1.1,x.2.2.1.2))) (fun z12=>(some z12))))) (cnd (iNe x.2.2.2.1 3) (some true) (bnd (Bn ((x.2.1.1,x.2.1.2),
 (x.2.2.1.1,x.2.2.1.2))) (fun z12=>(some z12))))))))) (bnd (Da (x.1,((x.2.1.1,x.2.1.2),((x.2.2.1.1,x.2.2.1.2),(x.2.2.2.1,x.2.2.2.2))))) (fun z11
 => (cnd z11 (cnd (Ah z5.2) (cnd (Ah x.2.2.2.2) (some false) (bnd (Cq (x.1,((x.2.1.1,x.2.1.2),((x.2.2.1.1,x.2.2.1.2),(x.2.2.2.1,x.2.2.2.2))))) (fun z12
 => (cnd z12 (some false) (cnd (iNe x.2.2.2.1 3) (some true) (bnd (Bn ((x.2.1.1,x.2.1.2),(x.2.2.1.1,x.2.2.1.2))) (fun z13=>(some z13)))))))) (cnd (iNe
 x.2.2.2.1 3) (some true) (bnd (Bn ((x.2.1.1,x.2.1.2),(x.2.2.1.1,x.2.2.1.2))) (fun z12=>(some z12))))) (cnd (iNe x.2.2.2.1 3) (some true) (bnd
 (Bn ((x.2.1.1,x.2.1.2),(x.2.2.1.1,x.2.2.1.2))) (fun z12=>(some z12)))))))))))))))) (bnd (Cq (x.1,((x.2.1.1,x.2.1.2),((x.2.2.1.1,x.2.2.1.2),
 (x.2.2.2.1,x.2.2.2.2))))) (fun z8=>(cnd z8 (cnd (iNe x.2.2.1.1 0) (some false) (cnd (Ah z6.2) (some false) (bnd (Da (x.1,((x.2.1.1,x.2.1.2),((x.2.2.1.1,
 x.2.2.1.2),(x.2.2.2.1,x.2.2.2.2))))) (fun z9=>(cnd z9 (cnd (Ah z5.2) (cnd (Ah x.2.2.2.2) (some false) (bnd (Cq (x.1,((x.2.1.1,x.2.1.2),((x.2.2.1.1,
 x.2.2.1.2),(x.2.2.2.1,x.2.2.2.2))))) (fun z10=>(cnd z10 (some false) (cnd (iNe x.2.2.2.1 3) (some true) (bnd (Bn ((x.2.1.1,x.2.1.2),(x.2.2.1.1,
 x.2.2.1.2))) (fun z11=>(some z11)))))))) (cnd (iNe x.2.2.2.1 3) (some true) (bnd (Bn ((x.2.1.1,x.2.1.2),(x.2.2.1.1,x.2.2.1.2))) (fun z10=>(some
 z10))))) (cnd (iNe x.2.2.2.1 3) (some true) (bnd (Bn ((x.2.1.1,x.2.1.2),(x.2.2.1.1,x.2.2.1.2))) (fun z10=>(some z10))))))))) (bnd (Da (x.1,
 ((x.2.1.1,x.2.1.2),((x.2.2.1.1,x.2.2.1.2),(x.2.2.2.1,x.2.2.2.2))))) (fun z9=>(cnd z9 (cnd (Ah z5.2) (cnd (Ah x.2.2.2.2) (some false) (bnd (Cq (x.1,
 ((x.2.1.1,x.2.1.2),((x.2.2.1.1,x.2.2.1.2),(x.2.2.2.1,x.2.2.2.2))))) (fun z10=>(cnd z10 (some false) (cnd (iNe x.2.2.2.1 3) (some true) (bnd (Bn
 ((x.2.1.1,x.2.1.2),(x.2.2.1.1,x.2.2.1.2))) (fun z11=>(some z11)))))))) (cnd (iNe x.2.2.2.1 3) (some true) (bnd (Bn ((x.2.1.1,x.2.1.2),(x.2.2.1.1,
 x.2.2.1.2))) (fun z10=>(some z10))))) (cnd (iNe x.2.2.2.1 3) (some true) (bnd (Bn ((x.2.1.1,x.2.1.2),(x.2.2.1.1,x.2.2.1.2))) (fun z10=>(some
 z10)))))))))))))))))))))))))))))
def Md (x:Int):Bz:=(bnd (Bv (x,(0,65535))) (fun z1=>(some z1)))
def V8 (x:Gy):Bz:=(bnd (Bv (x.1,(1,9))) (fun z1=>(cnd z1 (bnd (Md x.2.1) (fun z2=>(cnd z2 (bnd (Bv
 (x.2.2,(0,6))) (fun z3=>(some z3))) (some false)))) (some false))))
def Zbo (x:Du):(Int)->Option Nt:=fun (z1:Int)=>(cnd (iLt z1 (Ae x.1)) (bnd (idx x.1 z1) (fun z2=>(bnd (Mb (z2.1,
 ((z2.2.1.1,z2.2.1.2),((z2.2.2.1.1,z2.2.2.1.2),(z2.2.2.2.1,z2.2.2.2.2))))) (fun z3=>(cnd (Ah z3) (some (.inr (.inr false))) (cnd (iGt z1 0) (bnd (idx x.1 (A6
 .i64 z1 1)) (fun z4=>(bnd (idx x.1 z1) (fun z5=>(cnd (Ah (sLt z4.1 z5.1)) (some (.inr (.inr false))) (some (.inl (Ai .i64 z1 1)))))))) (some (.inl (Ai
 .i64 z1 1))))))))) (some (.inr (.inl ()))))
def Zbp (x:Du):(Int)->Option Nt:=fun (z2:Int)=>(cnd (iLt z2 (Ae x.2.2)) (bnd (idx x.2.2 z2) (fun z3=>(bnd (V8 (z3.1,
 (z3.2.1,z3.2.2))) (fun z4=>(cnd (Ah z4) (some (.inr (.inr false))) (cnd (iGt z2 0) (bnd (idx x.2.2 (A6 .i64 z2 1)) (fun z5=>(bnd (idx x.2.2 z2) (fun
 z6=>(cnd (iGe z5.1 z6.1) (some (.inr (.inr false))) (some (.inl (Ai .i64 z2 1)))))))) (some (.inl (Ai .i64 z2 1))))))))) (some (.inr (.inl ()))))
def Mc (x:Du):Bz:=(Ao (Ar (Zbo x) 0) (fun (z1:Unit)=>(Ao (Ar (Zbp x) 0) (fun (z2:Unit)=>(cnd (iLe (Ae x.1) 8)
 (bnd (Bv (x.2.1,(0,7))) (fun z3=>(some z3))) (some false))))))
def Za1 (x:tqT):Bz:=(bnd (V3 (x.1.1,(x.1.2.1,(x.1.2.2.1,x.1.2.2.2)))) (fun z1=>(cnd z1 (cnd (iEq (Ae x.1.1) 62) (cnd x.1.2.2.2
 (bnd (Mc (x.2.1.1,(x.2.1.2.1,x.2.1.2.2))) (fun z2=>(cnd z2 (bnd (Bv (x.2.2.1,(1,60000))) (fun z3=>(cnd z3 (bnd (Bv (x.2.2.2,(0,
 30))) (fun z4=>(some z4))) (some false)))) (some false)))) (cnd (iEq (Ae x.1.2.1) 0) (bnd (Mc (x.2.1.1,(x.2.1.2.1,x.2.1.2.2))) (fun z2=>(cnd z2
 (bnd (Bv (x.2.2.1,(1,60000))) (fun z3=>(cnd z3 (bnd (Bv (x.2.2.2,(0,30))) (fun z4=>(some z4))) (some false)))) (some false)))) (some
 false))) (some false)) (some false))))
def Za3 (x:Gd):Bz:=(cnd (sEq x.1 []) (bnd (N6 (x.2.1.1,x.2.1.2)) (fun z1=>(cnd z1 (bnd (N6 (x.2.2.1.1,x.2.2.1.2)) (fun
 z2=>(cnd z2 (cnd (iEq x.2.2.2.1 0) (some (Ah x.2.2.2.2)) (some false)) (some false)))) (some false)))) (some false))
def Zf7 (x:Hi):Bz:=(cnd (iEq x.2.2.2.2.1 0) (cnd (iEq x.2.2.2.2.2.1 0) (cnd (iEq x.2.2.2.2.2.2 0) (some (iNe x.1 4)) (some false)) (some false)) (bnd
 (Bv (x.2.2.2.2.1,(1,9))) (fun z1=>(cnd z1 (bnd (Md x.2.2.2.2.2.1) (fun z2=>(cnd z2 (bnd (Bv (x.2.2.2.2.2.2,(0,6))) (fun z3
 => (some z3))) (some false)))) (some false)))))
def Sm (x:Hi):Bz:=(bnd (Za3 (x.2.1.1,((x.2.1.2.1.1,x.2.1.2.1.2),((x.2.1.2.2.1.1,x.2.1.2.2.1.2),(x.2.1.2.2.2.1,x.2.1.2.2.2.2))))) (fun
 z1=>(Ao (cnd (iEq x.1 1) (bnd (Mb (x.2.1.1,((x.2.1.2.1.1,x.2.1.2.1.2),((x.2.1.2.2.1.1,x.2.1.2.2.1.2),(x.2.1.2.2.2.1,x.2.1.2.2.2.2))))) (fun z2
 => (some (.inl (z2,((sEq x.2.2.1 []),(iEq x.2.2.2.1 0))))))) (cnd (iEq x.1 2) (bnd (Sj x.2.2.1) (fun z2=>(some (.inl (z1,(z2,(iEq x.2.2.2.1 0))))))) (cnd
 (iEq x.1 3) (bnd (Bv (x.2.2.2.1,(0,7))) (fun z2=>(some (.inl (z1,((sEq x.2.2.1 []),z2)))))) (some (.inl (z1,((sEq x.2.2.1 []),(iEq x.2.2.2.1 0)))))))) (fun
 (z2:(Bool×(Bool×Bool)))=>(bnd (Bv (x.1,(1,4))) (fun z3=>(cnd z3 (cnd z2.1 (cnd z2.2.1 (cnd z2.2.2 (bnd (Zf7 (x.1,((x.2.1.1,((x.2.1.2.1.1,
 x.2.1.2.1.2),((x.2.1.2.2.1.1,x.2.1.2.2.1.2),(x.2.1.2.2.2.1,x.2.1.2.2.2.2)))),(x.2.2.1,(x.2.2.2.1,(x.2.2.2.2.1,(x.2.2.2.2.2.1,x.2.2.2.2.2.2))))))) (fun z4 =>
 (some z4))) (some false)) (some false)) (some false)) (some false))))))))
def Zbs (x:tqY):tqV->Option (tqV ⊕ tqZ):=fun (z1:tqV)=>(cnd (iLt z1.2.2.2 (Ae z1.1)) (Ao (Ao (cnd (Ah z1.2.2.1) (bnd (idx z1.1 z1.2.2.2)
 (fun z2=>(cnd (Ah (sLt z2.1 x.2.1)) (bnd (N5 x.2) (fun z3=>(chk (A1 (z1.2.1.length+1) 96) (some (.inl ((Al z1.2.1 [z3]),true)))))) (some
 (.inl (z1.2.1,z1.2.2.1)))))) (some (.inl (z1.2.1,z1.2.2.1)))) (fun (z2:U4)=>(bnd (idx z1.1 z1.2.2.2) (fun z3=>(cnd (Ah (sEq z3.1 x.2.1)) (bnd (idx z1.1
 z1.2.2.2) (fun z4=>(chk (Gq z4.2.1.2) (chk (Gq z4.2.2.1.2) (bnd (idx z1.1 (Int.ofNat (nOf z1.2.2.2))) (fun z5=>(bnd (idx (Ap z1.1 (nOf z1.2.2.2)
 (z5.1,((z5.2.1.1,none),z5.2.2))) (Int.ofNat (nOf z1.2.2.2))) (fun z6=>(chk (A1 (z2.1.length+1) 96) (some (.inl ((Ap (Ap z1.1 (nOf z1.2.2.2) (z5.1,
 ((z5.2.1.1,none),z5.2.2))) (nOf z1.2.2.2) (z6.1,(z6.2.1,((z6.2.2.1.1,none),z6.2.2.2)))),((Al z2.1 [(z4.1,((z4.2.1.1,(Ic z4.2.1.2)),((z4.2.2.1.1,(Ic z4.2.2.1.2)),
 z4.2.2.2)))]),z2.2))))))))))))) (some (.inl (z1.1,z2)))))))) (fun (z2:(Px×U4))=>(some (.inl (z2.1,(z2.2.1,(z2.2.2,(Ai .i64 z1.2.2.2 1)))))))) (some (.inr (.inl
 (z1.2.1,z1.2.2.1)))))
def Wa (x:tqY):Zni:=(Ao (Ar (Zbs x) (x.1,([],(false,0)))) (fun (z1:U4)=>(Ao (cnd (Ah z1.2) (bnd (N5 x.2) (fun z2=>(chk (A1 (z1.1.length+1) 96) (some (.inl (Al z1.1 [z2])))))) (some (.inl z1.1))) (fun (z2:Dl)=>(some z2)))))
def Zgs (x:Zx8):(Int)->Option ((Int) ⊕ Int):=fun (z1:Int)=>(cnd (iLt z1 (Ae x.1.1)) (bnd (idx x.1.1 z1) (fun z2=>(cnd (sEq z2.1 x.2)
 (some (.inr z1)) (some (.inl (Ai .i64 z1 1)))))) (some (.inr (-1))))
def V6 (x:Zx8):(Option Int):=(Ar (Zgs x) 0)
def Zgv (x:Zfl):Y6->Option Zya:=fun (z1:Y6)=>(cnd (iLt z1.2.2 (Ae x.1)) (Ao (Ao (cnd (Ah z1.2.1) (bnd (idx x.1 z1.2.2) (fun z2=>(cnd (iGe z2.1 x.2.1) (chk (A1 (z1.1.length+1) 24) (some (.inl ((Al z1.1 [x.2]),true)))) (some (.inl (z1.1,z1.2.1)))))) (some (.inl (z1.1,z1.2.1)))) (fun (z2 :
 R4)=>(bnd (idx x.1 z1.2.2) (fun z3=>(cnd (iNe z3.1 x.2.1) (bnd (idx x.1 z1.2.2) (fun z4=>(chk (A1 (z2.1.length+1) 24) (some (.inl ((Al z2.1 [z4]),
 z2.2)))))) (some (.inl z2))))))) (fun (z2:R4)=>(some (.inl (z2.1,(z2.2,(Ai .i64 z1.2.2 1))))))) (some (.inr (.inl (z1.1,z1.2.1)))))
def V9 (x:Zfl):Zno:=(Ao (Ar (Zgv x) ([],(false,0))) (fun (z1:R4)=>(Ao (cnd (Ah z1.2) (chk (A1 (z1.1.length+1) 24)
 (some (.inl (Al z1.1 [x.2])))) (some (.inl z1.1))) (fun (z2:E2)=>(some z2)))))
def Zav (x:tqF):Zx7:=(bnd (Sq x.1) (fun z1=>(bnd (Mc x.1) (fun z2=>(cnd (Ah z2) (some (z1,false)) (bnd
 (Sm x.2) (fun z3=>(cnd (Ah z3) (some (z1,false)) (Ao (cnd (iEq x.2.1 1) (bnd (cvL (.P .S (.P (.P (.I .i64) (.L .Y)) (.P (.P (.I .i64) (.L .Y)) (.P (.I
 .i64) .B)))) (.P .S (.P (.P (.I .i64) (.H .Y)) (.P (.P (.I .i64) (.H .Y)) (.P (.I .i64) .B)))) z1.1) (fun z4=>(bnd (Wa (z4,x.2.2.1)) (fun z5=>(some
 (.inl (z5,z1.2.1))))))) (cnd (iEq x.2.1 2) (bnd (V6 (z1,x.2.2.2.1)) (fun z4=>(cnd (iGe z4 0) (chk (Dx 0 z4 (Ae z1.1)) (chk (Ib 0 ((nOf z4)-0)
 z1.1.length) (chk (A1 (0+(Bq ((nOf z4)-0) z1.1).length) 96) (chk (Dx (Ai .i64 z4 1) (Ae (mvW (.P .S (.P (.P (.I .i64) (.L .Y)) (.P (.P (.I .i64) (.L .Y)) (.P (.I
 .i64) .B)))) 0 ((nOf z4)-0) z1.1)) (Ae (mvW (.P .S (.P (.P (.I .i64) (.L .Y)) (.P (.P (.I .i64) (.L .Y)) (.P (.I .i64) .B)))) 0 ((nOf z4)-0) z1.1))) (chk (Ib (nOf (Ai
 .i64 z4 1)) ((nOf (Ae (mvW (.P .S (.P (.P (.I .i64) (.L .Y)) (.P (.P (.I .i64) (.L .Y)) (.P (.I .i64) .B)))) 0 ((nOf z4)-0) z1.1)))-(nOf (Ai .i64 z4 1))) (mvW (.P .S (.P
 (.P (.I .i64) (.L .Y)) (.P (.P (.I .i64) (.L .Y)) (.P (.I .i64) .B)))) 0 ((nOf z4)-0) z1.1).length) (bnd (cvL (.P .S (.P (.P (.I .i64) (.H .Y)) (.P (.P (.I .i64) (.H .Y)) (.P
 (.I .i64) .B)))) (.P .S (.P (.P (.I .i64) (.L .Y)) (.P (.P (.I .i64) (.L .Y)) (.P (.I .i64) .B)))) (Bq ((nOf (Ae (mvW (.P .S (.P (.P (.I .i64) (.L .Y)) (.P (.P (.I .i64) (.L
 .Y)) (.P (.I .i64) .B)))) 0 ((nOf z4)-0) z1.1)))-(nOf (Ai .i64 z4 1))) (Dk (nOf (Ai .i64 z4 1)) (mvW (.P .S (.P (.P (.I .i64) (.L .Y)) (.P (.P (.I .i64) (.L .Y)) (.P
 (.I .i64) .B)))) 0 ((nOf z4)-0) z1.1)))) (fun z5=>(chk (A1 ((Al [] (Bq ((nOf z4)-0) z1.1)).length+z5.length) 96) (some (.inl ((Al (Al [] (Bq ((nOf
 z4)-0) z1.1)) z5),z1.2.1))))))))))) (some (.inl (z1.1,z1.2.1)))))) (cnd (iEq x.2.1 3) (some (.inl (z1.1,x.2.2.2.2.1))) (some (.inl (z1.1,z1.2.1)))))) (fun (z4:Gc) =>
 (Ao (cnd (iNe x.2.2.2.2.2.1 0) (bnd (V9 (z1.2.2,x.2.2.2.2.2)) (fun z5=>(some (.inl z5)))) (some (.inl z1.2.2))) (fun (z5:E2)=>(bnd (Mc (z4.1,
 (z4.2,z5))) (fun z6=>(cnd (Ah z6) (bnd (Sq x.1) (fun z7=>(some (z7,false)))) (some ((z4.1,(z4.2,z5)),true)))))))))))))))))
def Zgq (x:Du):Nr->Option tqC:=fun (z1:Nr)=>(cnd (iLt z1.2 (Ae x.1)) (bnd (idx x.1 z1.2) (fun z2=>(bnd (N5 (z2.1,
 ((z2.2.1.1,z2.2.1.2),((z2.2.2.1.1,z2.2.2.1.2),(z2.2.2.2.1,z2.2.2.2.2))))) (fun z3=>(chk (A1 (z1.1.length+1) 152) (some (.inl ((Al z1.1 [(1,((z3.1,
 ((z3.2.1.1,z3.2.1.2),((z3.2.2.1.1,z3.2.2.1.2),(z3.2.2.2.1,z3.2.2.2.2)))),([],(0,(0,(0,0))))))]),(Ai .i64 z1.2 1))))))))) (some (.inr (.inl z1.1))))
def Zgr (x:Du):Nr->Option tqC:=fun (z2:Nr)=>(cnd (iLt z2.2 (Ae x.2.2)) (bnd (idx x.2.2 z2.2) (fun z3=>(bnd (idx x.2.2 z2.2)
 (fun z4=>(bnd (idx x.2.2 z2.2) (fun z5=>(chk (A1 (z2.1.length+1) 152) (some (.inl ((Al z2.1 [(4,(([],((0,[]),((0,[]),(0,false)))),([],(0,
 (z3.1,(z4.2.1,z5.2.2))))))]),(Ai .i64 z2.2 1))))))))))) (some (.inr (.inl z2.1))))
def V5 (x:Du):Zx4:=(Ao (Ar (Zgq x) ([(3,(([],((0,[]),((0,[]),(0,false)))),([],(x.2.1,(0,(0,0))))))],0)) (fun (z1:Lz)
 => (Ao (Ar (Zgr x) (z1,0)) (fun (z2:Lz)=>(some z2)))))
def Sr (x:(Int×Int)):(Option Int):=(some (Ai .i64 (Ai .i64 2 (Ld .i64 30 (D6 x.1 2))) x.2))
def Io (x:Df):E6:=(chk (A1 (0+x.1.length) 1) (chk (A1 ((Al [] x.1).length+2) 1) (some (Al (Al [] x.1) [(u8 (Ak .u8 (Bp .i64 x.2
 8))),(u8 (Ak .u8 x.2))]))))
def Qf (x:Y7):E6:=(cnd (iGt (Ae x.2) 60) (chk (A1 (0+x.1.length) 1) (some (Al [] x.1))) (bnd (Io (x.1,(Ae x.2))) (fun z1=>(chk (A1 (z1.length+x.2.length) 1) (some (Al z1 x.2))))))
def Zf6 (x:Bool):(Option UInt8):=(cnd x (some (u8 1)) (some (u8 0)))
def Sp (x:((List UInt8)×Dw)):E6:=(chk (A1 (x.1.length+1) 1) (bnd (Qf ((Al x.1 [(u8 (Ak .u8 x.2.1))]),x.2.2)) (fun z1=>(some z1))))
def V4 (x:Zyc):E6:=(chk (A1 (0+x.1.length) 1) (bnd (Mb (x.2.1,((x.2.2.1.1,x.2.2.1.2),((x.2.2.2.1.1,x.2.2.2.1.2),(x.2.2.2.2.1,
 x.2.2.2.2.2))))) (fun z1=>(cnd (Ah z1) (some (Al [] x.1)) (bnd (Qf ((Al [] x.1),x.2.1)) (fun z2=>(bnd (Zf6 x.2.2.2.2.2) (fun
 z3=>(chk (A1 (z2.length+2) 1) (Ao (bnd (Da (x.2.1,((x.2.2.1.1,x.2.2.1.2),((x.2.2.2.1.1,x.2.2.2.1.2),(x.2.2.2.2.1,x.2.2.2.2.2))))) (fun z4
 => (cnd z4 (bnd (Sp ((Al z2 [(u8 (Ak .u8 x.2.2.2.2.1)),z3]),(x.2.2.1.1,x.2.2.1.2))) (fun z5=>(some (.inl z5)))) (some (.inl (Al z2 [(u8
 (Ak .u8 x.2.2.2.2.1)),z3])))))) (fun (z4:(List UInt8))=>(Ao (bnd (Cq (x.2.1,((x.2.2.1.1,x.2.2.1.2),((x.2.2.2.1.1,x.2.2.2.1.2),(x.2.2.2.2.1,
 x.2.2.2.2.2))))) (fun z5=>(cnd z5 (bnd (Sp (z4,(x.2.2.2.1.1,x.2.2.2.1.2))) (fun z6=>(some (.inl z6)))) (some (.inl z4))))) (fun (z5 :
 (List UInt8))=>(some z5))))))))))))))
def Zgt:(Int×Int)->Option Zyl:=fun (z3:(Int×Int))=>(cnd (iLt z3.2 8) (Ao (cnd (iGt (B4 .i64 z3.1 1) 65535) (some (.inl (O6 .i64 (B4 .i64
 z3.1 1) 69665))) (some (.inl (B4 .i64 z3.1 1)))) (fun (z4:Int)=>(some (.inl (z4,(Ai .i64 z3.2 1)))))) (some (.inr (.inl z3.1))))
def Zgu (x:(List UInt8)):(Int×Int)->Option K1:=fun (z1:(Int×Int))=>(cnd (iLt z1.2 (Ae x)) (Ao (bnd (idx x z1.2) (fun z2 =>
 (Ar (Zgt) ((O6 .i64 z1.1 (B4 .i64 (Ak .i64 (y2i z2)) 8)),0)))) (fun (z2:Int)=>(some (.inl (z2,(Ai .i64 z1.2 1)))))) (some (.inr (.inl z1.1))))
def V7 (x:(List UInt8)):(Option Int):=(Ao (Ar (Zgu x) (65535,0)) (fun (z1:Int)=>(some (Ax .i64 z1 65535))))
def Sk (x:Zx5):E6:=(bnd (Sm (x.2.2.1,((x.2.2.2.1.1,((x.2.2.2.1.2.1.1,x.2.2.2.1.2.1.2),((x.2.2.2.1.2.2.1.1,x.2.2.2.1.2.2.1.2),
 (x.2.2.2.1.2.2.2.1,x.2.2.2.1.2.2.2.2)))),(x.2.2.2.2.1,(x.2.2.2.2.2.1,(x.2.2.2.2.2.2.1,(x.2.2.2.2.2.2.2.1,x.2.2.2.2.2.2.2.2))))))) (fun z1=>(cnd (Ah z1) (some
 []) (bnd (Md x.1) (fun z2=>(cnd (Ah z2) (some []) (bnd (Md x.2.1) (fun z3=>(cnd (Ah z3) (some []) (al 3 (bnd (Io ([],x.1)) (fun
 z4=>(bnd (Io (z4,x.2.1)) (fun z5=>(chk (A1 (z5.length+1) 1) (Ao (cnd (iEq x.2.2.1 1) (bnd (V4 ((Al z5 [(u8 (Ak
 .u8 x.2.2.1))]),(x.2.2.2.1.1,((x.2.2.2.1.2.1.1,x.2.2.2.1.2.1.2),((x.2.2.2.1.2.2.1.1,x.2.2.2.1.2.2.1.2),(x.2.2.2.1.2.2.2.1,x.2.2.2.1.2.2.2.2)))))) (fun z6
 => (some (.inl z6)))) (cnd (iEq x.2.2.1 2) (bnd (Qf ((Al z5 [(u8 (Ak .u8 x.2.2.1))]),x.2.2.2.2.1)) (fun z6=>(some (.inl z6)))) (cnd (iEq x.2.2.1
 3) (chk (A1 ((Al z5 [(u8 (Ak .u8 x.2.2.1))]).length+1) 1) (some (.inl (Al (Al z5 [(u8 (Ak .u8 x.2.2.1))]) [(u8 (Ak .u8 x.2.2.2.2.2.1))])))) (some (.inl (Al
 z5 [(u8 (Ak .u8 x.2.2.1))])))))) (fun (z6:(List UInt8))=>(chk (A1 (z6.length+2) 1) (bnd (Io ((Al z6 [(u8 (Ak .u8 x.2.2.2.2.2.2.1)),(u8 (Ak .u8
 x.2.2.2.2.2.2.2.2))]),x.2.2.2.2.2.2.2.1)) (fun z7=>(bnd (V7 z7) (fun z8=>(bnd (Io (z7,z8)) (fun z9=>(some
 z9)))))))))))))))))))))))))
def So (x:Dm):Yq4:=(cnd (iEq x.2.2.1 0) (some (false,((-1),true))) (cnd (iGt x.2.2.1 0) (some (true,((A6 .i64 x.2.2.1 1),x.2.2.2))) (some (true,
 (x.2.2.1,x.2.2.2)))))
def K3 (x:Zye):(Option Zfm):=(cnd x.1.2.2.2 (some (x.1.2.1,(x.1.2.2.1,x.1.2.2.2))) (bnd (Bv (x.2.1,(0,(A6 .i64 (Ae x.1.1) 1)))) (fun
 z1=>(cnd (Ah z1) (some (x.1.2.1,(x.1.2.2.1,x.1.2.2.2))) (cnd (iGt (Ae x.2.2) 120) (some (x.1.2.1,(x.1.2.2.1,x.1.2.2.2))) (cnd (iGe (Ae x.1.2.1) 40) (some
 (x.1.2.1,(x.1.2.2.1,x.1.2.2.2))) (bnd (So (x.1.1,(x.1.2.1,(x.1.2.2.1,x.1.2.2.2)))) (fun z2=>(cnd (Ah z2.1) (some (x.1.2.1,(z2.2.1,z2.2.2))) (chk (A1
 (0+x.2.2.length) 1) (chk (A1 (x.1.2.1.length+1) 32) (some ((Al x.1.2.1 [(x.2.1,(Al [] x.2.2))]),(z2.2.1,z2.2.2))))))))))))))
def Jg (x:(List (List UInt8))×(List (Int×(List UInt8)))×Int×Bool):Option ((List (List UInt8))×(List (Int×(List UInt8)))×Int×Bool):=chk (decide ((-1<=x.2.2.1/\x.2.2.1<=1000)/\x.1.length<2^40/\x.2.1.length<2^40/\∀w∈x.2.1,0<=w.1/\w.1<=(x.1.length:Int)-1)) (some (flC x.1 x.2.1 x.2.2.1 x.2.2.2))
def Zaz (x:(Int×Int)):E6:=(bnd (Bv (x.1,(1,60000))) (fun z1=>(cnd (Ah z1) (some []) (bnd (Bv (x.2,(0,30))) (fun z2=>(cnd (Ah z2) (some []) (bnd (Io ([],x.1)) (fun z3=>(bnd (Io (z3,x.2)) (fun z4=>(bnd (V7 z4) (fun z5 =>
 (bnd (Io (z4,z5)) (fun z6=>(some z6)))))))))))))))
def Zbt (x:tqQ) (z1:Lz):Zfk->Option (Zfk ⊕ (Zfm ⊕ Znj)):=fun (z2:Zfk)=>(cnd (iLt z2.2.2.2 (Ae z1)) (bnd (Sr (x.2,z2.2.2.2))
 (fun z3=>(bnd (idx z1 z2.2.2.2) (fun z4=>(bnd (Sk (x.2,(z2.2.2.2,z4))) (fun z5=>(bnd (K3 ((x.1.1.1,(z2.1,(z2.2.1,
 z2.2.2.1))),(z3,z5))) (fun z6=>(some (.inl (z6.1,(z6.2.1,(z6.2.2,(Ai .i64 z2.2.2.2 1)))))))))))))) (some (.inr (.inl (z2.1,(z2.2.1,z2.2.2.1))))))
def Ss (x:tqQ):(Option Znj):=(bnd (V5 x.1.2.1) (fun z1=>(Ao (Ar (Zbt x z1) (x.1.1.2.1,(x.1.1.2.2.1,(x.1.1.2.2.2,
 0)))) (fun (z2:Zfm)=>(bnd (Jg (x.1.1.1,z2)) (fun z3=>(bnd (Zaz (x.2,(Ae z1))) (fun z4=>(bnd (K3 (z3,((D6 x.2
 2),z4))) (fun z5=>(bnd (Jg (z3.1,z5)) (fun z6=>(cnd (Ah z6.2.2.2) (some (z6.1,(z6.2.1,(z6.2.2.1,(z6.2.2.2,(x.1.2.1.2.1,(x.2,(Ae
 z1)))))))) (some (z6.1,(z6.2.1,(z6.2.2.1,(z6.2.2.2,(x.1.2.1.2.1,x.1.2.2)))))))))))))))))))
def Wb (x:tqD):(Option tqO):=(al 1 (bnd (Zav (x.1.2.1,x.2)) (fun z1=>(cnd (Ah z1.2) (some (false,x.1)) (Ao (cnd (iEq x.1.2.2.2
 30) (cnd (iLt x.1.2.2.1 60000) (bnd (Ss (x.1,(Ai .i64 x.1.2.2.1 1))) (fun z2=>(some (.inl z2)))) (some (.inl (x.1.1.1,(x.1.1.2.1,(x.1.1.2.2.1,
 (x.1.1.2.2.2,(x.1.2.1.2.1,x.1.2.2)))))))) (some (.inl (x.1.1.1,(x.1.1.2.1,(x.1.1.2.2.1,(x.1.1.2.2.2,(x.1.2.1.2.1,x.1.2.2)))))))) (fun (z2:Znj)=>(cnd z2.2.2.2.1 (some
 (false,((z2.1,(z2.2.1,(z2.2.2.1,z2.2.2.2.1))),((x.1.2.1.1,(z2.2.2.2.2.1,x.1.2.1.2.2)),z2.2.2.2.2.2)))) (cnd (iEq z2.2.2.2.2.2.2 30) (some (false,((z2.1,(z2.2.1,
 (z2.2.2.1,z2.2.2.2.1))),((x.1.2.1.1,(z2.2.2.2.2.1,x.1.2.1.2.2)),z2.2.2.2.2.2)))) (bnd (Sr z2.2.2.2.2.2) (fun z3=>(bnd (Sk (z2.2.2.2.2.2.1,
 (z2.2.2.2.2.2.2,x.2))) (fun z4=>(bnd (K3 ((z2.1,(z2.2.1,(z2.2.2.1,z2.2.2.2.1))),(z3,z4))) (fun z5=>(bnd (Jg (z2.1,z5))
 (fun z6=>(cnd z6.2.2.2 (some (false,(z6,((x.1.2.1.1,(z2.2.2.2.2.1,x.1.2.1.2.2)),z2.2.2.2.2.2)))) (some (true,(z6,(z1.1,(z2.2.2.2.2.2.1,(Ai .i64
 z2.2.2.2.2.2.2 1)))))))))))))))))))))))
def Zau (x:tqD):tqJ:=(bnd (Zf8 x.1) (fun z1=>(bnd (Za1 x.1) (fun z2=>(cnd (Ah z2) (some (z1,false)) (cnd x.1.1.2.2.2
 (some (z1,false)) (bnd (Wb (z1,x.2)) (fun z3=>(some (z3.2,z3.1))))))))))
def Qh (x:Ee):Df->Option Zyk:=fun (z1:Df)=>(cnd (iLt z1.2 (Ae x)) (bnd (idx x z1.2) (fun z2=>(chk (A1 (z1.1.length
 + z2.length) 1) (some (.inl ((Al z1.1 z2),(Ai .i64 z1.2 1))))))) (some (.inr (.inl z1.1))))
def Gg (x:Ee):E6:=(Ao (Ar (Qh x) ([],0)) (fun (z1:(List UInt8))=>(some z1)))
def Zbe (x:Dm):Ge->Option Zng:=fun (z1:Ge)=>(cnd (iLt z1.2 (Ae x.1)) (bnd (idx x.1 z1.2) (fun z2=>(bnd (Gg
 [z2]) (fun z3=>(chk (A1 (z1.1.length+1) 24) (some (.inl ((Al z1.1 [z3]),(Ai .i64 z1.2 1))))))))) (some (.inr (.inl z1.1))))
def Zbf (x:Dm):Hj->Option Zx9:=fun (z2:Hj)=>(cnd (iLt z2.2 (Ae x.2.1)) (bnd (idx x.2.1 z2.2) (fun z3=>(bnd (Gg
 [z3.2]) (fun z4=>(chk (A1 (z2.1.length+1) 32) (some (.inl ((Al z2.1 [(z3.1,z4)]),(Ai .i64 z2.2 1))))))))) (some (.inr (.inl z2.1))))
def N2 (x:Dm):U5:=(Ao (Ar (Zbe x) ([],0)) (fun (z1:Ee)=>(Ao (Ar (Zbf x) ([],0)) (fun (z2:E1)=>(some
 (z1,(z2,(x.2.2.1,x.2.2.2))))))))
def Vp (x:Dw):U6:=(bnd (Gg [x.2]) (fun z1=>(some (x.1,z1))))
def N3 (x:Gd):Znk:=(bnd (Vp x.2.1) (fun z1=>(bnd (Vp x.2.2.1) (fun z2=>(some (x.1,(z1,(z2,
 x.2.2.2))))))))
def Zzm (x:Du):Gc->Option tqE:=fun (z1:Gc)=>(cnd (iLt z1.2 (Ae x.1)) (bnd (idx x.1 z1.2) (fun z2=>(bnd (N3 (z2.1,
 ((z2.2.1.1,z2.2.1.2),((z2.2.2.1.1,z2.2.2.1.2),(z2.2.2.2.1,z2.2.2.2.2))))) (fun z3=>(chk (A1 (z1.1.length+1) 96) (some (.inl ((Al z1.1 [(z3.1,((z3.2.1.1,
 z3.2.1.2),((z3.2.2.1.1,z3.2.2.1.2),(z3.2.2.2.1,z3.2.2.2.2))))]),(Ai .i64 z1.2 1))))))))) (some (.inr (.inl z1.1))))
def Se (x:Du):Zne:=(al 2 (chk (A1 (0+x.2.2.length) 24) (Ao (Ar (Zzm x) ([],0)) (fun (z1:Dl)=>(some (z1,(x.2.1,(Al []
 x.2.2))))))))
def Sd (x:tqT):tqN:=(bnd (N2 x.1) (fun z1=>(bnd (Se x.2.1) (fun z2=>(some (z1,(z2,x.2.2)))))))
def Jf (x:Y5):Bz:=(cnd (iEq x.1.1 x.2.1) (some (sEq x.1.2 x.2.2)) (some false))
def Zw (x:Zx3):Bz:=(cnd (sEq x.1.1 x.2.1) (bnd (Jf ((x.1.2.1.1,x.1.2.1.2),(x.2.2.1.1,x.2.2.1.2))) (fun z1=>(cnd z1 (bnd
 (Jf ((x.1.2.2.1.1,x.1.2.2.1.2),(x.2.2.2.1.1,x.2.2.2.1.2))) (fun z2=>(cnd z2 (cnd (iEq x.1.2.2.2.1 x.2.2.2.2.1) (some (bEq x.1.2.2.2.2 x.2.2.2.2.2)) (some
 false)) (some false)))) (some false)))) (some false))
def Cw (x:Gy):Bz:=(cnd (iGe x.1 x.2.1) (some (iLe x.1 x.2.2)) (some false))
def Zzl (x:(List UInt8)):(Int)->Option Nt:=fun (z1:Int)=>(cnd (iLt z1 (Ae x)) (bnd (idx x z1) (fun z2=>(bnd (Cw ((Ak
 .i64 (y2i z2)),(97,122))) (fun z3=>(cnd (Ah z3) (bnd (idx x z1) (fun z4=>(bnd (Cw ((Ak .i64 (y2i z4)),(48,57))) (fun z5=>(cnd
 (Ah z5) (some (.inr (.inr false))) (some (.inl (Ai .i64 z1 1)))))))) (some (.inl (Ai .i64 z1 1)))))))) (some (.inr (.inl ()))))
def Vk (x:(List UInt8)):Bz:=(Ao (Ar (Zzl x) 0) (fun (z1:Unit)=>(bnd (Cw ((Ae x),(1,6))) (fun z2=>(some
 z2)))))
def Zu (x:Int):Bz:=(bnd (Cw (x,(0,5))) (fun z1=>(some z1)))
def Vh (x:Dw):Bz:=(bnd (Zu x.1) (fun z1=>(cnd z1 (some (iLe (Ae x.2) 20)) (some false))))
def Me (x:(List UInt8)):(Option (Int×Int)):=(cnd (iLt (Ae x) 1) (some (65533,0)) (bnd (idx x 0) (fun z1=>(chk (iLe 0 (y2i
 z1)) (chk (iLt (y2i z1) 256) (bnd (idx Ox (Int.ofNat (0+((nOf (y2i z1))*1)))) (fun z2=>(cnd (iGe (y2i z2) (y2i (u8 240))) (bnd (idx x 0) (fun z3 =>
 (some ((iOr .i32 (Zje .i32 (Ak .i32 (y2i z3)) (Bp .i32 (B4 .i32 (Ak .i32 (y2i z2)) 31) 31)) (Ax .i32 65533 (Bp .i32 (B4 .i32 (Ak .i32 (y2i z2)) 31) 31))),
 1)))) (chk (iLe 0 (y2i (u8 (Bp .u8 (y2i z2) 4)))) (chk (iLt (y2i (u8 (Bp .u8 (y2i z2) 4))) 16) (bnd (idx Ts (Int.ofNat (0+((nOf (y2i (u8 (Bp .u8 (y2i z2) 4))))*2))))
 (fun z3=>(bnd (idx Ts (Int.ofNat ((0+((nOf (y2i (u8 (Bp .u8 (y2i z2) 4))))*2))+1))) (fun z4=>(cnd (iLt (Ae x) (Ak .i64 (y2i (u8 (Ax .u8
 (y2i z2) (y2i (u8 7))))))) (some (65533,1)) (bnd (idx x 1) (fun z5=>(cnd (iLt (y2i z5) (y2i z3)) (some (65533,1)) (cnd (iLt (y2i z4) (y2i z5)) (some (65533,1))
 (cnd (iLe (Ak .i64 (y2i (u8 (Ax .u8 (y2i z2) (y2i (u8 7)))))) 2) (some ((iOr .i32 (B4 .i32 (Ak .i32 (y2i (u8 (Ax .u8 (y2i z1) (y2i (u8 31)))))) 6) (Ak .i32 (y2i
 (u8 (Ax .u8 (y2i z5) (y2i (u8 63))))))),2)) (bnd (idx x 2) (fun z6=>(cnd (iLt (y2i z6) (y2i (u8 128))) (some (65533,1)) (cnd (iLt (y2i (u8 191)) (y2i z6)) (some
 (65533,1)) (cnd (iLe (Ak .i64 (y2i (u8 (Ax .u8 (y2i z2) (y2i (u8 7)))))) 3) (some ((iOr .i32 (iOr .i32 (B4 .i32 (Ak .i32 (y2i (u8 (Ax .u8 (y2i z1) (y2i (u8 15))))))
 12) (B4 .i32 (Ak .i32 (y2i (u8 (Ax .u8 (y2i z5) (y2i (u8 63)))))) 6)) (Ak .i32 (y2i (u8 (Ax .u8 (y2i z6) (y2i (u8 63))))))),3)) (bnd (idx x 3) (fun z7 =>
 (cnd (iLt (y2i z7) (y2i (u8 128))) (some (65533,1)) (cnd (iLt (y2i (u8 191)) (y2i z7)) (some (65533,1)) (some ((iOr .i32 (iOr .i32 (iOr .i32 (B4 .i32 (Ak .i32 (y2i (u8
 (Ax .u8 (y2i z1) (y2i (u8 7)))))) 18) (B4 .i32 (Ak .i32 (y2i (u8 (Ax .u8 (y2i z5) (y2i (u8 63)))))) 12)) (B4 .i32 (Ak .i32 (y2i (u8 (Ax .u8 (y2i z6) (y2i (u8
 63)))))) 6)) (Ak .i32 (y2i (u8 (Ax .u8 (y2i z7) (y2i (u8 63))))))),4)))))))))))))))))))))))))))))))
def Wn (x:(List UInt8)):(Int)->Option ((Int) ⊕ (Unit ⊕ (Int×Int))):=fun (z1:Int)=>(cnd (iLt z1 (Ae x)) (bnd (idx x z1) (fun z2=>(cnd (iLt (y2i z2) (y2i (u8 128))) (some (.inr (.inr ((Ak .i32 (y2i z2)),1)))) (some (.inr (.inl ())))))) (some (.inr (.inl ()))))
def Za7 (x:(List UInt8)):(Option (Int×Int)):=(Ao (Ar (Wn x) 0) (fun (z1:Unit)=>(bnd (Me x) (fun
 z2=>(some (z2.1,z2.2))))))
def Zr (x:Df):U7:=(cnd (iLt x.2 0) (some (0,(0,false))) (cnd (iGe x.2 (Ae x.1)) (some (0,(0,false))) (chk (Dx x.2 (Ae x.1) (Ae x.1))
 (chk (Rm (nOf x.2) (Bq ((nOf (Ae x.1))-(nOf x.2)) (Dk (nOf x.2) x.1)).length) (bnd (Za7 (Bq ((nOf (Ae x.1))-(nOf x.2)) (Dk (nOf x.2) x.1)))
 (fun z1=>(cnd (iEq z1.1 65533) (cnd (iLt z1.2 2) (some (0,(0,false))) (some ((Ak .i64 z1.1),((Ai .i64 x.2 z1.2),true)))) (some ((Ak .i64 z1.1),
 ((Ai .i64 x.2 z1.2),true))))))))))
def Zfx (x:(Int×Int)):Zfp:=(cnd (iEq x.1 164) (bnd (Cw (x.2,(161,243))) (fun z1=>(cnd z1 (some ((A6 .i64 (Ai .i64 12353
 x.2) 161),true)) (cnd (iEq x.1 165) (bnd (Cw (x.2,(161,246))) (fun z2=>(cnd z2 (some ((A6 .i64 (Ai .i64 12449 x.2) 161),true)) (some (0,false)))))
 (some (0,false)))))) (cnd (iEq x.1 165) (bnd (Cw (x.2,(161,246))) (fun z1=>(cnd z1 (some ((A6 .i64 (Ai .i64 12449 x.2) 161),true)) (some (0,false)))))
 (some (0,false))))
def Zq (x:Df):U7:=(cnd (iLt x.2 0) (some (0,(0,false))) (cnd (iGe x.2 (Ae x.1)) (some (0,(0,false))) (bnd (idx x.1 x.2) (fun z1 =>
 (cnd (iLe (y2i z1) (y2i (u8 127))) (bnd (idx x.1 x.2) (fun z2=>(some ((Ak .i64 (y2i z2)),((Ai .i64 x.2 1),true))))) (cnd (iEq (Ai .i64 x.2 1) (Ae x.1))
 (some (0,(0,false))) (bnd (idx x.1 x.2) (fun z2=>(bnd (idx x.1 (Ai .i64 x.2 1)) (fun z3=>(bnd (Zfx ((Ak .i64 (y2i z2)),(Ak .i64 (y2i
 z3)))) (fun z4=>(cnd (Ah z4.2) (some (0,(0,false))) (some (z4.1,((Ai .i64 x.2 2),true))))))))))))))))
def Zoc (x:Int):(Option Int):=(cnd (iEq x 164) (some 8364) (cnd (iEq x 166) (some 352) (cnd (iEq x 168) (some 353) (cnd (iEq x 180) (some 381) (cnd
 (iEq x 184) (some 382) (cnd (iEq x 188) (some 338) (cnd (iEq x 189) (some 339) (cnd (iEq x 190) (some 376) (some x)))))))))
def Zob (x:Int):(Option Int):=(cnd (iGe x 224) (chk (iLe 0 (A6 .i64 x 224)) (chk (iLt (A6 .i64 x 224) 32) (bnd (idx [1102,1072,1073,1094,1076,
 1077,1092,1075,1093,1080,1081,1082,1083,1084,1085,1086,1087,1103,1088,1089,1090,1091,1078,1074,1100,1099,1079,1096,1101,1097,1095,1098] (Int.ofNat (0 +
 ((nOf (A6 .i64 x 224))*1)))) (fun z1=>(some (A6 .i64 z1 32)))))) (cnd (iGe x 192) (chk (iLe 0 (A6 .i64 x 192)) (chk (iLt (A6 .i64 x 192) 32) (bnd (idx [1102,
 1072,1073,1094,1076,1077,1092,1075,1093,1080,1081,1082,1083,1084,1085,1086,1087,1103,1088,1089,1090,1091,1078,1074,1100,1099,1079,1096,1101,1097,
 1095,1098] (Int.ofNat (0+((nOf (A6 .i64 x 192))*1)))) (fun z1=>(some z1))))) (cnd (iEq x 163) (some 1105) (cnd (iEq x 179) (some 1025) (some 0)))))
def Zod (x:Int):(Option Int):=(cnd (iGe x 160) (some x) (chk (iLe 0 (A6 .i64 x 128)) (chk (iLt (A6 .i64 x 128) 32) (bnd (idx [8364,0,8218,402,
 8222,8230,8224,8225,710,8240,352,8249,338,0,381,0,0,8216,8217,8220,8221,8226,8211,8212,732,8482,353,8250,339,0,382,376] (Int.ofNat (0+((nOf (A6
 .i64 x 128))*1)))) (fun z1=>(some z1))))))
def P3 (x:(Int×Int)):Zfp:=(bnd (Cw (x.1,(1,4))) (fun z1=>(cnd (Ah z1) (some (0,false)) (bnd (Cw (x.2,(0,255)))
 (fun z2=>(cnd (Ah z2) (some (0,false)) (cnd (iLe x.2 127) (some (x.2,true)) (Ao (cnd (iEq x.1 2) (bnd (Zoc x.2) (fun z3=>(some (.inl z3))))
 (cnd (iEq x.1 3) (bnd (Zob x.2) (fun z3=>(some (.inl z3)))) (cnd (iEq x.1 4) (bnd (Zod x.2) (fun z3=>(some (.inl z3)))) (some (.inl x.2)))))
 (fun (z3:Int)=>(some (z3,(iNe z3 0))))))))))))
def Zx (x:(Int×Df)):U7:=(cnd (iEq x.1 0) (bnd (Zr (x.2.1,x.2.2)) (fun z1=>(some (z1.1,(z1.2.1,z1.2.2))))) (cnd (iEq x.1 5)
 (bnd (Zq (x.2.1,x.2.2)) (fun z1=>(some (z1.1,(z1.2.1,z1.2.2))))) (bnd (idx x.2.1 x.2.2) (fun z1=>(bnd (P3 (x.1,(Ak .i64 (y2i
 z1)))) (fun z2=>(some (z2.1,((Ai .i64 x.2.2 1),z2.2)))))))))
def Zfz (x:Int):Bz:=(bnd (Cw (x,(0,1114111))) (fun z1=>(cnd z1 (bnd (Cw (x,(55296,57343))) (fun z2=>(some
 (Ah z2)))) (some false))))
def Zga (x:Df):E6:=(cnd (iLe (Ak .u32 x.2) 2047) (chk (A1 (x.1.length+2) 1) (some (Al x.1 [(u8 (iOr .u8 (y2i (u8 192)) (y2i
 (u8 (Ak .u8 (Bp .i32 x.2 6)))))),(u8 (iOr .u8 (y2i (u8 128)) (y2i (u8 (Ax .u8 (y2i (u8 (Ak .u8 x.2))) (y2i (u8 63)))))))]))) (Ao (cnd (iLt (Ak .u32 x.2) 55296)
 (some (.inl true)) (cnd (iLt 57343 (Ak .u32 x.2)) (some (.inl (iLe (Ak .u32 x.2) 65535))) (some (.inl false)))) (fun (z1:Bool)=>(cnd z1 (chk (A1 (x.1.length+3) 1)
 (some (Al x.1 [(u8 (iOr .u8 (y2i (u8 224)) (y2i (u8 (Ak .u8 (Bp .i32 x.2 12)))))),(u8 (iOr .u8 (y2i (u8 128)) (y2i (u8 (Ax .u8 (y2i (u8 (Ak .u8 (Bp .i32 x.2 6))))
 (y2i (u8 63))))))),(u8 (iOr .u8 (y2i (u8 128)) (y2i (u8 (Ax .u8 (y2i (u8 (Ak .u8 x.2))) (y2i (u8 63)))))))]))) (cnd (iGt (Ak .u32 x.2) 65535) (cnd (iLe (Ak .u32 x.2)
 1114111) (chk (A1 (x.1.length+4) 1) (some (Al x.1 [(u8 (iOr .u8 (y2i (u8 240)) (y2i (u8 (Ak .u8 (Bp .i32 x.2 18)))))),(u8 (iOr .u8 (y2i (u8 128)) (y2i (u8 (Ax .u8
 (y2i (u8 (Ak .u8 (Bp .i32 x.2 12)))) (y2i (u8 63))))))),(u8 (iOr .u8 (y2i (u8 128)) (y2i (u8 (Ax .u8 (y2i (u8 (Ak .u8 (Bp .i32 x.2 6)))) (y2i (u8 63))))))),(u8 (iOr
 .u8 (y2i (u8 128)) (y2i (u8 (Ax .u8 (y2i (u8 (Ak .u8 x.2))) (y2i (u8 63)))))))]))) (chk (A1 (x.1.length+3) 1) (some (Al x.1 [(u8 239),(u8 191),(u8 189)])))) (chk
 (A1 (x.1.length+3) 1) (some (Al x.1 [(u8 239),(u8 191),(u8 189)]))))))))
def Zf9 (x:Df):E6:=(cnd (iLe (Ak .u32 x.2) 127) (chk (A1 (x.1.length+1) 1) (some (Al x.1 [(u8 (Ak .u8 x.2))]))) (bnd
 (Zga (x.1,x.2)) (fun z1=>(some z1))))
def Zs (x:Df):E6:=(bnd (Gg [x.1]) (fun z1=>(bnd (Zfz x.2) (fun z2=>(cnd (Ah z2) (some z1) (bnd
 (Zf9 (z1,(Ak .i32 x.2))) (fun z3=>(some z3))))))))
def Zgf (x:Dw):Df->Option Zyh:=fun (z2:Df)=>(cnd (iLt z2.2 (Ae x.2)) (bnd (Zx (x.1,(x.2,z2.2))) (fun z3=>(cnd (Ah
 z3.2.2) (some (.inr (.inr ([],false)))) (bnd (Zs (z2.1,z3.1)) (fun z4=>(some (.inl (z4,z3.2.1)))))))) (some (.inr (.inl z2.1))))
def Zp (x:Dw):Zfo:=(bnd (Zu x.1) (fun z1=>(cnd (Ah z1) (some ([],false)) (Ao (Ar (Zgf x) ([],0)) (fun (z2 :
 (List UInt8))=>(some (z2,true)))))))
def P4 (x:Dw):Zfo:=(bnd (Vh (x.1,x.2)) (fun z1=>(cnd (Ah z1) (some ([],false)) (bnd (Zp (x.1,x.2)) (fun z2
 => (some (z2.1,z2.2)))))))
def Zfy (x:Y5):Bz:=(bnd (P4 (x.1.1,x.1.2)) (fun z1=>(bnd (P4 (x.2.1,x.2.2)) (fun z2=>(cnd z1.2 (cnd
 z2.2 (some (sEq z1.1 z2.1)) (some false)) (some false))))))
def L5 (x:Gd):Bz:=(bnd (Vk x.1) (fun z1=>(cnd (Ah z1) (some false) (bnd (Cw (x.2.2.2.1,(1,3))) (fun z2 =>
 (cnd (Ah z2) (some false) (bnd (P4 (x.2.1.1,x.2.1.2)) (fun z3=>(bnd (P4 (x.2.2.1.1,x.2.2.1.2)) (fun z4=>(bnd (Jf
 ((x.2.1.1,x.2.1.2),(0,[]))) (fun z5=>(Ao (cnd (iNe x.2.2.2.1 2) (bnd (Vh (x.2.1.1,x.2.1.2)) (fun z6=>(cnd z6 (cnd (iNe x.2.1.1 0) (cnd z3.2
 (some (.inl true)) (cnd x.2.2.2.2 (some (.inl (iEq x.2.2.2.1 1))) (some (.inl false)))) (some (.inl false))) (some (.inl false))))) (some (.inl z5))) (fun (z6:Bool)=>(bnd
 (Jf ((x.2.2.1.1,x.2.2.1.2),(0,[]))) (fun z7=>(Ao (cnd (iNe x.2.2.2.1 1) (cnd (iEq x.2.2.1.1 0) (some (.inl z4.2)) (some (.inl false))) (some (.inl
 z7))) (fun (z8:Bool)=>(cnd z6 (cnd z8 (cnd (iNe x.2.2.2.1 3) (some true) (bnd (Zfy ((x.2.1.1,x.2.1.2),(x.2.2.1.1,x.2.2.1.2))) (fun z9=>(some z9))))
 (some false)) (some false))))))))))))))))))))
def L7 (x:Int):Bz:=(bnd (Cw (x,(0,65535))) (fun z1=>(some z1)))
def Sc (x:Hi):Bz:=(bnd (Zw ((x.2.1.1,((x.2.1.2.1.1,x.2.1.2.1.2),((x.2.1.2.2.1.1,x.2.1.2.2.1.2),(x.2.1.2.2.2.1,x.2.1.2.2.2.2)))),([],
 ((0,[]),((0,[]),(0,false)))))) (fun z1=>(Ao (cnd (iEq x.1 1) (bnd (L5 (x.2.1.1,((x.2.1.2.1.1,x.2.1.2.1.2),((x.2.1.2.2.1.1,x.2.1.2.2.1.2),
 (x.2.1.2.2.2.1,x.2.1.2.2.2.2))))) (fun z2=>(cnd z2 (cnd (sEq x.2.2.1 []) (some (.inl (iEq x.2.2.2.1 0))) (some (.inl false))) (some (.inl false))))) (cnd (iEq x.1 2)
 (cnd z1 (bnd (Vk x.2.2.1) (fun z2=>(cnd z2 (some (.inl (iEq x.2.2.2.1 0))) (some (.inl false))))) (some (.inl false))) (cnd (iEq x.1 3) (cnd z1 (cnd (sEq
 x.2.2.1 []) (bnd (Cw (x.2.2.2.1,(0,7))) (fun z2=>(some (.inl z2)))) (some (.inl false))) (some (.inl false))) (cnd (iEq x.1 4) (cnd z1 (cnd (sEq x.2.2.1 [])
 (cnd (iEq x.2.2.2.1 0) (some (.inl (iNe x.2.2.2.2.1 0))) (some (.inl false))) (some (.inl false))) (some (.inl false))) (some (.inl false)))))) (fun (z2:Bool)=>(cnd (iEq
 x.2.2.2.2.1 0) (cnd z2 (cnd (iEq x.2.2.2.2.2.1 0) (some (iEq x.2.2.2.2.2.2 0)) (some false)) (some false)) (cnd z2 (bnd (Cw (x.2.2.2.2.1,(1,9))) (fun z3 =>
 (cnd z3 (bnd (L7 x.2.2.2.2.2.1) (fun z4=>(cnd z4 (bnd (Cw (x.2.2.2.2.2.2,(0,6))) (fun z5=>(some z5))) (some false)))) (some false))))
 (some false)))))))
def Zbc (x:Du):(Int)->Option Nt:=fun (z1:Int)=>(cnd (iLt z1 (Ae x.1)) (bnd (idx x.1 z1) (fun z2=>(bnd (L5 (z2.1,
 ((z2.2.1.1,z2.2.1.2),((z2.2.2.1.1,z2.2.2.1.2),(z2.2.2.2.1,z2.2.2.2.2))))) (fun z3=>(cnd (Ah z3) (some (.inr (.inr false))) (cnd (iGt z1 0) (bnd (idx x.1 (A6
 .i64 z1 1)) (fun z4=>(cnd (Ah (sLt z4.1 z2.1)) (some (.inr (.inr false))) (some (.inl (Ai .i64 z1 1)))))) (some (.inl (Ai .i64 z1 1))))))))) (some (.inr (.inl
 ()))))
def Zbd (x:Du):(Int)->Option Nt:=fun (z2:Int)=>(cnd (iLt z2 (Ae x.2.2)) (bnd (idx x.2.2 z2) (fun z3=>(bnd (Cw (z3.1,(1,
 9))) (fun z4=>(cnd (Ah z4) (some (.inr (.inr false))) (bnd (L7 z3.2.1) (fun z5=>(cnd (Ah z5) (some (.inr (.inr false))) (bnd (Cw
 (z3.2.2,(0,6))) (fun z6=>(cnd (Ah z6) (some (.inr (.inr false))) (cnd (iGt z2 0) (bnd (idx x.2.2 (A6 .i64 z2 1)) (fun z7=>(cnd (iGe z7.1 z3.1) (some
 (.inr (.inr false))) (some (.inl (Ai .i64 z2 1)))))) (some (.inl (Ai .i64 z2 1))))))))))))))) (some (.inr (.inl ()))))
def L6 (x:Du):Bz:=(Ao (Ar (Zbc x) 0) (fun (z1:Unit)=>(Ao (Ar (Zbd x) 0) (fun (z2:Unit)=>(cnd (iLe (Ae x.1) 8)
 (bnd (Cw (x.2.1,(0,7))) (fun z3=>(some z3))) (some false))))))
def Zbg (x:tqY):tqW->Option (tqW ⊕ tqZ):=fun (z1:tqW)=>(cnd (iLt z1.2.2.2 (Ae x.1)) (Ao (bnd (idx z1.2.2.1 z1.2.2.2) (fun z2 =>
 (chk (Gq z2.2.1.2) (chk (Gq z2.2.2.1.2) (Ao (cnd (Ah z1.2.1) (cnd (Ah (sLt z2.1 x.2.1)) (bnd (N3 x.2) (fun z3=>(chk (A1 (z1.1.length+1) 96)
 (some (.inl ((Al z1.1 [z3]),true)))))) (some (.inl (z1.1,z1.2.1)))) (some (.inl (z1.1,z1.2.1)))) (fun (z3:U4)=>(cnd (Ah (sEq z2.1 x.2.1)) (bnd (idx z1.2.2.1
 (Int.ofNat (nOf z1.2.2.2))) (fun z4=>(bnd (idx (Ap z1.2.2.1 (nOf z1.2.2.2) (z4.1,((z4.2.1.1,none),z4.2.2))) (Int.ofNat (nOf z1.2.2.2))) (fun z5=>(chk
 (A1 (z3.1.length+1) 96) (some (.inl ((Al z3.1 [(z2.1,((z2.2.1.1,(Ic z2.2.1.2)),((z2.2.2.1.1,(Ic z2.2.2.1.2)),z2.2.2.2)))]),(z3.2,(Ap (Ap z1.2.2.1 (nOf
 z1.2.2.2) (z4.1,((z4.2.1.1,none),z4.2.2))) (nOf z1.2.2.2) (z5.1,(z5.2.1,((z5.2.2.1.1,none),z5.2.2.2))))))))))))) (some (.inl (z3.1,(z3.2,z1.2.2.1))))))))))) (fun (z2 :
 (Dl×(Bool×Px)))=>(some (.inl (z2.1,(z2.2.1,(z2.2.2,(Ai .i64 z1.2.2.2 1)))))))) (some (.inr (.inl (z1.1,z1.2.1)))))
def Vq (x:tqY):Zni:=(Ao (Ar (Zbg x) ([],(false,(x.1,0)))) (fun (z1:U4)=>(Ao (cnd (Ah z1.2) (bnd (N3 x.2) (fun
 z2=>(chk (A1 (z1.1.length+1) 96) (some (.inl (Al z1.1 [z2])))))) (some (.inl z1.1))) (fun (z2:Dl)=>(some z2)))))
def Vg (x:(Gd×Hi)):(Option Yqz):=(some ((sEq x.1.1 x.2.2.2.1),(x.2.1,(x.2.2.1.1,(x.2.2.1.2.1.1,(x.2.2.1.2.2.1.1,(x.2.2.1.2.2.2.1,
 (x.2.2.1.2.2.2.2,x.2.2.2))))))))
def Zgw (x:tqK):Zfj->Option (Zfj ⊕ Zyb):=fun (z1:Zfj)=>(cnd (iLt z1.2.2.2.2.2.2.2.2.2.2.2 (Ae x.1)) (bnd (idx x.1
 z1.2.2.2.2.2.2.2.2.2.2.2) (fun z2=>(bnd (Vg (z2,(z1.1,((z1.2.1,((z1.2.2.1,x.2.2.1.2.1.2),((z1.2.2.2.1,x.2.2.1.2.2.1.2),(z1.2.2.2.2.1,
 z1.2.2.2.2.2.1)))),(z1.2.2.2.2.2.2.1,(z1.2.2.2.2.2.2.2.1,(z1.2.2.2.2.2.2.2.2.1,(z1.2.2.2.2.2.2.2.2.2.1,z1.2.2.2.2.2.2.2.2.2.2.1)))))))) (fun z3=>(cnd z3.1 (some
 (.inr (z1.2.2.2.2.2.2.2.2.2.2.2,z3.2))) (some (.inl (z3.2.1,(z3.2.2.1,(z3.2.2.2.1,(z3.2.2.2.2.1,(z3.2.2.2.2.2.1,(z3.2.2.2.2.2.2.1,(z3.2.2.2.2.2.2.2.1,
 (z3.2.2.2.2.2.2.2.2.1,(z3.2.2.2.2.2.2.2.2.2.1,(z3.2.2.2.2.2.2.2.2.2.2.1,(z3.2.2.2.2.2.2.2.2.2.2.2,(Ai .i64 z1.2.2.2.2.2.2.2.2.2.2.2 1))))))))))))))))))) (some (.inr ((-1),
 (z1.1,(z1.2.1,(z1.2.2.1,(z1.2.2.2.1,(z1.2.2.2.2.1,(z1.2.2.2.2.2.1,(z1.2.2.2.2.2.2.1,(z1.2.2.2.2.2.2.2.1,(z1.2.2.2.2.2.2.2.2.1,(z1.2.2.2.2.2.2.2.2.2.1,
 z1.2.2.2.2.2.2.2.2.2.2.1))))))))))))))
def Za6 (x:tqK):(Option Zyb):=(Ar (Zgw x) (x.2.1,(x.2.2.1.1,(x.2.2.1.2.1.1,(x.2.2.1.2.2.1.1,
 (x.2.2.1.2.2.2.1,(x.2.2.1.2.2.2.2,(x.2.2.2.1,(x.2.2.2.2.1,(x.2.2.2.2.2.1,(x.2.2.2.2.2.2.1,(x.2.2.2.2.2.2.2,0))))))))))))
def Wm (x:tqI):tqL->Option (tqL ⊕ (tqS ⊕ tqX)):=fun (z3:tqL)=>(cnd (iLt z3.2.2.2.2.2.2.2.2.2.2.2.2.2 (Ae z3.1)) (Ao (bnd
 (idx z3.1 z3.2.2.2.2.2.2.2.2.2.2.2.2.2) (fun z4=>(chk (Gq z4.2.1.2) (chk (Gq z4.2.2.1.2) (bnd (Vg ((z4.1,((z4.2.1.1,(Ic z4.2.1.2)),((z4.2.2.1.1,
 (Ic z4.2.2.1.2)),z4.2.2.2))),(z3.2.1,((z3.2.2.1,((z3.2.2.2.1,x.2.2.1.2.1.2),((z3.2.2.2.2.1,x.2.2.1.2.2.1.2),(z3.2.2.2.2.2.1,z3.2.2.2.2.2.2.1)))),(z3.2.2.2.2.2.2.2.1,
 (z3.2.2.2.2.2.2.2.2.1,(z3.2.2.2.2.2.2.2.2.2.1,(z3.2.2.2.2.2.2.2.2.2.2.1,z3.2.2.2.2.2.2.2.2.2.2.2.1)))))))) (fun z5=>(cnd (Ah z5.1) (bnd (idx z3.1
 z3.2.2.2.2.2.2.2.2.2.2.2.2.1) (fun z6=>(chk (nNe (nOf z3.2.2.2.2.2.2.2.2.2.2.2.2.1) (nOf z3.2.2.2.2.2.2.2.2.2.2.2.2.2)) (bnd (idx z3.1 (Int.ofNat (nOf
 z3.2.2.2.2.2.2.2.2.2.2.2.2.2))) (fun z7=>(chk (nEq (nOf z3.2.2.2.2.2.2.2.2.2.2.2.2.2) (nOf z3.2.2.2.2.2.2.2.2.2.2.2.2.2)) (chk (nEq (nOf z3.2.2.2.2.2.2.2.2.2.2.2.2.2)
 (nOf z3.2.2.2.2.2.2.2.2.2.2.2.2.2)) (some (.inl ((Ap (Ap z3.1 (nOf z3.2.2.2.2.2.2.2.2.2.2.2.2.1) (z4.1,((z4.2.1.1,(some (Ic z4.2.1.2))),((z4.2.2.1.1,(some (Ic
 z4.2.2.1.2))),z4.2.2.2)))) (nOf z3.2.2.2.2.2.2.2.2.2.2.2.2.2) (z7.1,((z7.2.1.1,none),((z7.2.2.1.1,none),z7.2.2.2)))),(z5.2.1,(z5.2.2.1,(z5.2.2.2.1,(z5.2.2.2.2.1,
 (z5.2.2.2.2.2.1,(z5.2.2.2.2.2.2.1,(z5.2.2.2.2.2.2.2.1,(z5.2.2.2.2.2.2.2.2.1,(z5.2.2.2.2.2.2.2.2.2.1,(z5.2.2.2.2.2.2.2.2.2.2.1,(z5.2.2.2.2.2.2.2.2.2.2.2,(Ai .i64
 z3.2.2.2.2.2.2.2.2.2.2.2.2.1 1)))))))))))))))))))))) (some (.inl (z3.1,(z5.2.1,(z5.2.2.1,(z5.2.2.2.1,(z5.2.2.2.2.1,(z5.2.2.2.2.2.1,(z5.2.2.2.2.2.2.1,(z5.2.2.2.2.2.2.2.1,
 (z5.2.2.2.2.2.2.2.2.1,(z5.2.2.2.2.2.2.2.2.2.1,(z5.2.2.2.2.2.2.2.2.2.2.1,(z5.2.2.2.2.2.2.2.2.2.2.2,z3.2.2.2.2.2.2.2.2.2.2.2.2.1))))))))))))))))))))) (fun (z4:tqS)=>(some
 (.inl (z4.1,(z4.2.1,(z4.2.2.1,(z4.2.2.2.1,(z4.2.2.2.2.1,(z4.2.2.2.2.2.1,(z4.2.2.2.2.2.2.1,(z4.2.2.2.2.2.2.2.1,(z4.2.2.2.2.2.2.2.2.1,(z4.2.2.2.2.2.2.2.2.2.1,
 (z4.2.2.2.2.2.2.2.2.2.2.1,(z4.2.2.2.2.2.2.2.2.2.2.2.1,(z4.2.2.2.2.2.2.2.2.2.2.2.2,(Ai .i64 z3.2.2.2.2.2.2.2.2.2.2.2.2.2 1)))))))))))))))))) (some (.inr (.inl (z3.1,(z3.2.1,
 (z3.2.2.1,(z3.2.2.2.1,(z3.2.2.2.2.1,(z3.2.2.2.2.2.1,(z3.2.2.2.2.2.2.1,(z3.2.2.2.2.2.2.2.1,(z3.2.2.2.2.2.2.2.2.1,(z3.2.2.2.2.2.2.2.2.2.1,(z3.2.2.2.2.2.2.2.2.2.2.1,
 (z3.2.2.2.2.2.2.2.2.2.2.2.1,z3.2.2.2.2.2.2.2.2.2.2.2.2.1))))))))))))))))
def We (x:tqI):(Option tqX):=(bnd (cvL (.P .S (.P (.P (.I .i64) (.H .Y)) (.P (.P (.I .i64) (.H .Y)) (.P (.I .i64) .B)))) (.P .S (.P
 (.P (.I .i64) (.L .Y)) (.P (.P (.I .i64) (.L .Y)) (.P (.I .i64) .B)))) x.1) (fun z1=>(bnd (Za6 (z1,x.2)) (fun z2=>(cnd (iEq z2.1
 (-1)) (bnd (cvL (.P .S (.P (.P (.I .i64) (.H .Y)) (.P (.P (.I .i64) (.H .Y)) (.P (.I .i64) .B)))) (.P .S (.P (.P (.I .i64) (.L .Y)) (.P (.P (.I .i64) (.L .Y)) (.P (.I .i64)
 .B)))) x.1) (fun z3=>(some (z3,z2.2)))) (Ao (Ar (Wm x) (x.1,(z2.2.1,(z2.2.2.1,(z2.2.2.2.1,(z2.2.2.2.2.1,(z2.2.2.2.2.2.1,
 (z2.2.2.2.2.2.2.1,(z2.2.2.2.2.2.2.2.1,(z2.2.2.2.2.2.2.2.2.1,(z2.2.2.2.2.2.2.2.2.2.1,(z2.2.2.2.2.2.2.2.2.2.2.1,(z2.2.2.2.2.2.2.2.2.2.2.2,(z2.1,(Ai .i64 z2.1
 1))))))))))))))) (fun (z3:tqS)=>(chk (Dx z3.2.2.2.2.2.2.2.2.2.2.2.2 (Ae z3.1) (Ae z3.1)) (chk (nEq ((nOf z3.2.2.2.2.2.2.2.2.2.2.2.2)+((nOf (Ae z3.1))-(nOf
 z3.2.2.2.2.2.2.2.2.2.2.2.2))) z3.1.length) (chk (Dx 0 z3.2.2.2.2.2.2.2.2.2.2.2.2 (Ae (Al (Bq (nOf z3.2.2.2.2.2.2.2.2.2.2.2.2) z3.1) (Es ((nOf (Ae z3.1))-(nOf
 z3.2.2.2.2.2.2.2.2.2.2.2.2)) ([],((0,none),((0,none),(0,false)))))))) (chk (Ib 0 ((nOf z3.2.2.2.2.2.2.2.2.2.2.2.2)-0) (Al (Bq (nOf z3.2.2.2.2.2.2.2.2.2.2.2.2)
 z3.1) (Es ((nOf (Ae z3.1))-(nOf z3.2.2.2.2.2.2.2.2.2.2.2.2)) ([],((0,none),((0,none),(0,false)))))).length) (bnd (cvL (.P .S (.P (.P (.I .i64) (.H .Y)) (.P (.P (.I
 .i64) (.H .Y)) (.P (.I .i64) .B)))) (.P .S (.P (.P (.I .i64) (.L .Y)) (.P (.P (.I .i64) (.L .Y)) (.P (.I .i64) .B)))) (Bq ((nOf z3.2.2.2.2.2.2.2.2.2.2.2.2)-0) (Al (Bq
 (nOf z3.2.2.2.2.2.2.2.2.2.2.2.2) z3.1) (Es ((nOf (Ae z3.1))-(nOf z3.2.2.2.2.2.2.2.2.2.2.2.2)) ([],((0,none),((0,none),(0,false)))))))) (fun z4=>(some (z4,
 (z3.2.1,(z3.2.2.1,(z3.2.2.2.1,(z3.2.2.2.2.1,(z3.2.2.2.2.2.1,(z3.2.2.2.2.2.2.1,(z3.2.2.2.2.2.2.2.1,(z3.2.2.2.2.2.2.2.2.1,(z3.2.2.2.2.2.2.2.2.2.1,
 (z3.2.2.2.2.2.2.2.2.2.2.1,z3.2.2.2.2.2.2.2.2.2.2.2.1)))))))))))))))))))))))))
def Zgl (x:Zfl):Y6->Option Zya:=fun (z1:Y6)=>(cnd (iLt z1.2.2 (Ae x.1)) (Ao (bnd (idx x.1 z1.2.2) (fun z2=>(Ao (cnd
 (Ah z1.2.1) (cnd (iGe z2.1 x.2.1) (chk (A1 (z1.1.length+1) 24) (some (.inl ((Al z1.1 [x.2]),true)))) (some (.inl (z1.1,z1.2.1)))) (some (.inl (z1.1,z1.2.1)))) (fun (z3
 : R4)=>(cnd (iNe z2.1 x.2.1) (chk (A1 (z3.1.length+1) 24) (some (.inl ((Al z3.1 [z2]),z3.2)))) (some (.inl z3))))))) (fun (z2:R4)=>(some (.inl (z2.1,(z2.2,
 (Ai .i64 z1.2.2 1))))))) (some (.inr (.inl (z1.1,z1.2.1)))))
def Sf (x:Zfl):Zno:=(Ao (Ar (Zgl x) ([],(false,0))) (fun (z1:R4)=>(Ao (cnd (Ah z1.2) (chk (A1 (z1.1.length+1) 24)
 (some (.inl (Al z1.1 [x.2])))) (some (.inl z1.1))) (fun (z2:E2)=>(some z2)))))
def Zo (x:tqF):Zx7:=(bnd (Se x.1) (fun z1=>(bnd (Sc x.2) (fun z2=>(cnd (Ah z2) (some (z1,false)) (bnd
 (L6 x.1) (fun z3=>(cnd (Ah z3) (some (z1,false)) (Ao (cnd (iEq x.2.1 1) (bnd (cvL (.P .S (.P (.P (.I .i64) (.L .Y)) (.P (.P (.I .i64) (.L .Y)) (.P (.I
 .i64) .B)))) (.P .S (.P (.P (.I .i64) (.H .Y)) (.P (.P (.I .i64) (.H .Y)) (.P (.I .i64) .B)))) z1.1) (fun z4=>(bnd (Vq (z4,x.2.2.1)) (fun z5 =>
 (some (.inl (x.2.1,(x.2.2.1.1,(x.2.2.1.2.1.1,(x.2.2.1.2.2.1.1,(x.2.2.1.2.2.2.1,(x.2.2.1.2.2.2.2,(x.2.2.2.1,(x.2.2.2.2.1,(x.2.2.2.2.2.1,(x.2.2.2.2.2.2.1,
 (x.2.2.2.2.2.2.2,(z5,z1.2.1)))))))))))))))))) (cnd (iEq x.2.1 2) (bnd (cvL (.P .S (.P (.P (.I .i64) (.L .Y)) (.P (.P (.I .i64) (.L .Y)) (.P (.I .i64) .B)))) (.P .S (.P (.P (.I
 .i64) (.H .Y)) (.P (.P (.I .i64) (.H .Y)) (.P (.I .i64) .B)))) z1.1) (fun z4=>(bnd (We (z4,x.2)) (fun z5=>(some (.inl (z5.2.1,
 (z5.2.2.1,(z5.2.2.2.1,(z5.2.2.2.2.1,(z5.2.2.2.2.2.1,(z5.2.2.2.2.2.2.1,(z5.2.2.2.2.2.2.2.1,(z5.2.2.2.2.2.2.2.2.1,(z5.2.2.2.2.2.2.2.2.2.1,(z5.2.2.2.2.2.2.2.2.2.2.1,
 (z5.2.2.2.2.2.2.2.2.2.2.2,(z5.1,z1.2.1)))))))))))))))))) (cnd (iEq x.2.1 3) (some (.inl (x.2.1,(x.2.2.1.1,(x.2.2.1.2.1.1,(x.2.2.1.2.2.1.1,(x.2.2.1.2.2.2.1,
 (x.2.2.1.2.2.2.2,(x.2.2.2.1,(x.2.2.2.2.1,(x.2.2.2.2.2.1,(x.2.2.2.2.2.2.1,(x.2.2.2.2.2.2.2,(z1.1,x.2.2.2.2.1)))))))))))))) (some (.inl (x.2.1,(x.2.2.1.1,(x.2.2.1.2.1.1,
 (x.2.2.1.2.2.1.1,(x.2.2.1.2.2.2.1,(x.2.2.1.2.2.2.2,(x.2.2.2.1,(x.2.2.2.2.1,(x.2.2.2.2.2.1,(x.2.2.2.2.2.2.1,(x.2.2.2.2.2.2.2,(z1.1,z1.2.1))))))))))))))))) (fun (z4:(Int
 × ((List UInt8)×(Int×(Int×(Int×(Bool×((List UInt8)×(Int×(Int×(Int×(Int×Gc))))))))))))=>(Ao (cnd (iGt z4.2.2.2.2.2.2.2.2.1 0) (bnd (Sf
 (z1.2.2,(z4.2.2.2.2.2.2.2.2.1,(z4.2.2.2.2.2.2.2.2.2.1,z4.2.2.2.2.2.2.2.2.2.2.1)))) (fun z5=>(some (.inl z5)))) (some (.inl z1.2.2))) (fun (z5:E2)=>(bnd
 (L6 (z4.2.2.2.2.2.2.2.2.2.2.2.1,(z4.2.2.2.2.2.2.2.2.2.2.2.2,z5))) (fun z6=>(cnd (Ah z6) (bnd (Se x.1) (fun z7=>(some (z7,false))))
 (some ((z4.2.2.2.2.2.2.2.2.2.2.2.1,(z4.2.2.2.2.2.2.2.2.2.2.2.2,z5)),true)))))))))))))))))
def Za9 (x:Dm):(Int)->Option Nt:=fun (z3:Int)=>(cnd (iLt z3 (Ae x.1)) (bnd (idx x.1 z3) (fun z4=>(cnd (iGt (Ae z4) 120)
 (some (.inr (.inr false))) (some (.inl (Ai .i64 z3 1)))))) (some (.inr (.inl ()))))
def Zba (x:Dm):(Int)->Option U8:=fun (z4:Int)=>(cnd (iLt z4 (Ae x.2.1)) (bnd (idx x.2.1 z4) (fun z5=>(bnd (Cw (z5.1,(0,
 (A6 .i64 (Ae x.1) 1)))) (fun z6=>(cnd (Ah z6) (some (.inr false)) (cnd (iGt (Ae z5.2) 120) (some (.inr false)) (some (.inl (Ai .i64 z4 1))))))))) (some (.inr
 true)))
def L3 (x:Dm):Bz:=(bnd (Cw ((Ae x.1),(1,64))) (fun z1=>(cnd (Ah z1) (some false) (cnd (iGt (Ae x.2.1) 40) (some false)
 (bnd (Cw (x.2.2.1,((-1),1000))) (fun z2=>(cnd (Ah z2) (some false) (Ao (Ar (Za9 x) 0) (fun (z3:Unit)=>(Ar (Zba x) 0))))))))))
def Vm (x:tqT):Bz:=(bnd (L3 (x.1.1,(x.1.2.1,(x.1.2.2.1,x.1.2.2.2)))) (fun z1=>(cnd z1 (cnd (iEq (Ae x.1.1) 62) (cnd (iEq (Ae
 x.1.2.1) 0) (bnd (L6 (x.2.1.1,(x.2.1.2.1,x.2.1.2.2))) (fun z2=>(cnd z2 (bnd (Cw (x.2.2.1,(1,60000))) (fun z3=>(cnd z3 (bnd (Cw
 (x.2.2.2,(0,30))) (fun z4=>(some z4))) (some false)))) (some false)))) (cnd x.1.2.2.2 (bnd (L6 (x.2.1.1,(x.2.1.2.1,x.2.1.2.2))) (fun z2=>(cnd z2
 (bnd (Cw (x.2.2.1,(1,60000))) (fun z3=>(cnd z3 (bnd (Cw (x.2.2.2,(0,30))) (fun z4=>(some z4))) (some false)))) (some false)))) (some
 false))) (some false)) (some false))))
def Zgg (x:Du):Nr->Option tqC:=fun (z1:Nr)=>(cnd (iLt z1.2 (Ae x.1)) (bnd (idx x.1 z1.2) (fun z2=>(bnd (N3 (z2.1,
 ((z2.2.1.1,z2.2.1.2),((z2.2.2.1.1,z2.2.2.1.2),(z2.2.2.2.1,z2.2.2.2.2))))) (fun z3=>(chk (A1 (z1.1.length+1) 152) (some (.inl ((Al z1.1 [(1,((z3.1,
 ((z3.2.1.1,z3.2.1.2),((z3.2.2.1.1,z3.2.2.1.2),(z3.2.2.2.1,z3.2.2.2.2)))),([],(0,(0,(0,0))))))]),(Ai .i64 z1.2 1))))))))) (some (.inr (.inl z1.1))))
def Zgh (x:Du):Nr->Option tqC:=fun (z2:Nr)=>(cnd (iLt z2.2 (Ae x.2.2)) (bnd (idx x.2.2 z2.2) (fun z3=>(chk (A1 (z2.1.length +
 1) 152) (some (.inl ((Al z2.1 [(4,(([],((0,[]),((0,[]),(0,false)))),([],(0,(z3.1,(z3.2.1,z3.2.2))))))]),(Ai .i64 z2.2 1))))))) (some (.inr (.inl z2.1))))
def Zt (x:Du):Zx4:=(Ao (Ar (Zgg x) ([(3,(([],((0,[]),((0,[]),(0,false)))),([],(x.2.1,(0,(0,0))))))],0)) (fun (z1:Lz)
 => (Ao (Ar (Zgh x) (z1,0)) (fun (z2:Lz)=>(some z2)))))
def N4 (x:(Int×Int)):(Option Int):=(some (Ai .i64 (Ai .i64 2 (Ld .i64 30 (D6 x.1 2))) x.2))
def Im (x:Df):E6:=(bnd (Gg [x.1,[(u8 (Ak .u8 (Ax .i64 (Bp .i64 x.2 8) 255))),(u8 (Ak .u8 (Ax .i64 x.2 255)))]]) (fun z1=>(some z1)))
def L4 (x:Y7):E6:=(cnd (iGt (Ae x.2) 60) (bnd (Gg [x.1]) (fun z1=>(some z1))) (bnd (Im (x.1,(Ae x.2))) (fun
 z1=>(bnd (Gg [z1,x.2]) (fun z2=>(some z2))))))
def Zf0 (x:Bool):(Option UInt8):=(cnd x (some (u8 1)) (some (u8 0)))
def Vl (x:Zyc):E6:=(bnd (Gg [x.1]) (fun z1=>(bnd (L5 (x.2.1,((x.2.2.1.1,x.2.2.1.2),((x.2.2.2.1.1,x.2.2.2.1.2),
 (x.2.2.2.2.1,x.2.2.2.2.2))))) (fun z2=>(cnd (Ah z2) (some z1) (bnd (L4 (z1,x.2.1)) (fun z3=>(bnd (Zf0 x.2.2.2.2.2) (fun z4=>(chk (A1 (z3.length+2) 1) (Ao (cnd (iNe x.2.2.2.2.1 2) (chk (A1 ((Al z3 [(u8 (Ak .u8 x.2.2.2.2.1)),z4]).length+1) 1) (bnd (L4 ((Al (Al z3
 [(u8 (Ak .u8 x.2.2.2.2.1)),z4]) [(u8 (Ak .u8 x.2.2.1.1))]),x.2.2.1.2)) (fun z5=>(some (.inl z5))))) (some (.inl (Al z3 [(u8 (Ak .u8 x.2.2.2.2.1)),
 z4])))) (fun (z5:(List UInt8))=>(Ao (cnd (iNe x.2.2.2.2.1 1) (chk (A1 (z5.length+1) 1) (bnd (L4 ((Al z5 [(u8 (Ak .u8 x.2.2.2.1.1))]),x.2.2.2.1.2)) (fun
 z6=>(some (.inl z6))))) (some (.inl z5))) (fun (z6:(List UInt8))=>(some z6)))))))))))))))
def Zgi:(Int×Int)->Option Zyl:=fun (z3:(Int×Int))=>(cnd (iLt z3.2 8) (Ao (cnd (iGt (Ld .i64 z3.1 2) 65535) (some (.inl (O6 .i64 (Ld .i64
 z3.1 2) 69665))) (some (.inl (Ld .i64 z3.1 2)))) (fun (z4:Int)=>(some (.inl (z4,(Ai .i64 z3.2 1)))))) (some (.inr (.inl z3.1))))
def Zgj (x:(List UInt8)):(Int×Int)->Option K1:=fun (z1:(Int×Int))=>(cnd (iLt z1.2 (Ae x)) (Ao (bnd (idx x z1.2) (fun z2 =>
 (Ar (Zgi) ((O6 .i64 z1.1 (Ld .i64 256 (Ak .i64 (y2i z2)))),0)))) (fun (z2:Int)=>(some (.inl (z2,(Ai .i64 z1.2 1)))))) (some (.inr (.inl z1.1))))
def Vn (x:(List UInt8)):(Option Int):=(Ao (Ar (Zgj x) (65535,0)) (fun (z1:Int)=>(some (Ax .i64 z1 65535))))
def P5 (x:Zx5):E6:=(bnd (Sc (x.2.2.1,((x.2.2.2.1.1,((x.2.2.2.1.2.1.1,x.2.2.2.1.2.1.2),((x.2.2.2.1.2.2.1.1,x.2.2.2.1.2.2.1.2),
 (x.2.2.2.1.2.2.2.1,x.2.2.2.1.2.2.2.2)))),(x.2.2.2.2.1,(x.2.2.2.2.2.1,(x.2.2.2.2.2.2.1,(x.2.2.2.2.2.2.2.1,x.2.2.2.2.2.2.2.2))))))) (fun z1=>(cnd (Ah z1) (some
 []) (bnd (L7 x.1) (fun z2=>(cnd (Ah z2) (some []) (bnd (L7 x.2.1) (fun z3=>(cnd (Ah z3) (some []) (al 2 (bnd (Im ([],x.1)) (fun
 z4=>(bnd (Im (z4,x.2.1)) (fun z5=>(chk (A1 (z5.length+1) 1) (Ao (cnd (iEq x.2.2.1 1) (bnd (Vl ((Al z5 [(u8 (Ak
 .u8 x.2.2.1))]),(x.2.2.2.1.1,((x.2.2.2.1.2.1.1,x.2.2.2.1.2.1.2),((x.2.2.2.1.2.2.1.1,x.2.2.2.1.2.2.1.2),(x.2.2.2.1.2.2.2.1,x.2.2.2.1.2.2.2.2)))))) (fun z6
 => (some (.inl z6)))) (cnd (iEq x.2.2.1 2) (bnd (L4 ((Al z5 [(u8 (Ak .u8 x.2.2.1))]),x.2.2.2.2.1)) (fun z6=>(some (.inl z6)))) (cnd (iEq x.2.2.1
 3) (chk (A1 ((Al z5 [(u8 (Ak .u8 x.2.2.1))]).length+1) 1) (some (.inl (Al (Al z5 [(u8 (Ak .u8 x.2.2.1))]) [(u8 (Ak .u8 x.2.2.2.2.2.1))])))) (some (.inl (Al
 z5 [(u8 (Ak .u8 x.2.2.1))])))))) (fun (z6:(List UInt8))=>(chk (A1 (z6.length+2) 1) (bnd (Im ((Al z6 [(u8 (Ak .u8 x.2.2.2.2.2.2.1)),(u8 (Ak .u8
 x.2.2.2.2.2.2.2.2))]),x.2.2.2.2.2.2.2.1)) (fun z7=>(bnd (Vn z7) (fun z8=>(bnd (Im (z7,z8)) (fun z9=>(some
 z9)))))))))))))))))))))))))
def Vo (x:Dm):(Option Zyg):=(cnd (iEq x.2.2.1 0) (some ((x.1,(x.2.1,((-1),true))),false)) (Ao (cnd (iGt x.2.2.1 0) (some (.inl (A6 .i64
 x.2.2.1 1))) (some (.inl x.2.2.1))) (fun (z1:Int)=>(some ((x.1,(x.2.1,(z1,x.2.2.2))),true)))))
def H7 (x:Zye):U5:=(bnd (N2 (x.1.1,(x.1.2.1,(x.1.2.2.1,x.1.2.2.2)))) (fun z1=>(bnd (L3 (x.1.1,(x.1.2.1,(x.1.2.2.1,
 x.1.2.2.2)))) (fun z2=>(cnd (Ah z2) (some (z1.1,(z1.2.1,(z1.2.2.1,z1.2.2.2)))) (cnd x.1.2.2.2 (some (z1.1,(z1.2.1,(z1.2.2.1,z1.2.2.2)))) (bnd (Cw
 (x.2.1,(0,(A6 .i64 (Ae x.1.1) 1)))) (fun z3=>(cnd (Ah z3) (some (z1.1,(z1.2.1,(z1.2.2.1,z1.2.2.2)))) (cnd (iGt (Ae x.2.2) 120) (some (z1.1,(z1.2.1,
 (z1.2.2.1,z1.2.2.2)))) (cnd (iEq (Ae x.1.2.1) 40) (some (z1.1,(z1.2.1,(z1.2.2.1,z1.2.2.2)))) (bnd (Vo (z1.1,(z1.2.1,(z1.2.2.1,z1.2.2.2)))) (fun z4 =>
 (Ao (cnd z4.2 (bnd (Gg [x.2.2]) (fun z5=>(chk (A1 (z4.1.2.1.length+1) 32) (some (.inl (Al z4.1.2.1 [(x.2.1,z5)])))))) (some (.inl z4.1.2.1)))
 (fun (z5:E1)=>(some (z4.1.1,(z5,(z4.1.2.2.1,z4.1.2.2.2)))))))))))))))))))
def Zbb (z3:Zyg):Ge->Option Zng:=fun (z4:Ge)=>(cnd (iLt z4.2 (Ae z3.1.2.1)) (bnd (idx z3.1.2.1 z4.2) (fun z5=>(bnd
 (Gg [z5.2]) (fun z6=>(bnd (idx z4.1 z5.1) (fun z7=>(some (.inl ((Ap z4.1 (nOf z5.1) z6),(Ai .i64 z4.2 1)))))))))) (some (.inr
 (.inl z4.1))))
def Je (x:Dm):U5:=(bnd (N2 (x.1,(x.2.1,(x.2.2.1,x.2.2.2)))) (fun z1=>(bnd (L3 (x.1,(x.2.1,(x.2.2.1,x.2.2.2))))
 (fun z2=>(cnd (Ah z2) (some (z1.1,(z1.2.1,(z1.2.2.1,z1.2.2.2)))) (cnd x.2.2.2 (some (z1.1,(z1.2.1,(z1.2.2.1,z1.2.2.2)))) (bnd (Vo (z1.1,(z1.2.1,
 (z1.2.2.1,z1.2.2.2)))) (fun z3=>(cnd (Ah z3.2) (some (z3.1.1,(z3.1.2.1,(z3.1.2.2.1,z3.1.2.2.2)))) (Ao (Ar (Zbb z3) (z3.1.1,0)) (fun (z4:Ee)
 => (some (z4,([],(z3.1.2.2.1,z3.1.2.2.2)))))))))))))))
def Vi (x:(Int×Int)):E6:=(bnd (Cw (x.1,(1,60000))) (fun z1=>(cnd (Ah z1) (some []) (bnd (Cw (x.2,(0,30))) (fun z2=>(cnd (Ah z2) (some []) (bnd (Im ([],x.1)) (fun z3=>(bnd (Im (z3,x.2)) (fun z4=>(bnd (Vn z4) (fun z5
 => (bnd (Im (z4,z5)) (fun z6=>(some z6)))))))))))))))
def Zgk (x:tqM):Znm->Option (Znm ⊕ Dm):=fun (z5:Znm)=>(cnd (iLt z5.2.2.2.2 (Ae x.2.2)) (bnd (idx x.2.2 z5.2.2.2.2) (fun z6=>(bnd
 (N4 (x.2.1,z5.2.2.2.2)) (fun z7=>(bnd (P5 (x.2.1,(z5.2.2.2.2,z6))) (fun z8=>(bnd (H7 ((z5.1,(z5.2.1,(z5.2.2.1,
 z5.2.2.2.1))),(z7,z8))) (fun z9=>(some (.inl (z9.1,(z9.2.1,(z9.2.2.1,(z9.2.2.2,(Ai .i64 z5.2.2.2.2 1))))))))))))))) (J3 (bnd (Je (z5.1,(z5.2.1,
 (z5.2.2.1,z5.2.2.2.1)))) (fun z6=>(bnd (Vi (x.2.1,(Ae x.2.2))) (fun z7=>(bnd (H7 (z6,((D6 x.2.1 2),z7))) (fun z8
 => (bnd (Je z8) (fun z9=>(some z9)))))))))))
def Zv (x:tqM):U5:=(cnd (iLt 0 (Ae x.2.2)) (bnd (idx x.2.2 0) (fun z1=>(bnd (N4 (x.2.1,0)) (fun z2=>(bnd (P5
 (x.2.1,(0,z1))) (fun z3=>(bnd (H7 (x.1,(z2,z3))) (fun z4=>(Ar (Zgk x) (z4.1,(z4.2.1,(z4.2.2.1,(z4.2.2.2,(Ai .i64 0
 1)))))))))))))) (bnd (Je x.1) (fun z1=>(bnd (Vi (x.2.1,(Ae x.2.2))) (fun z2=>(bnd (H7 (z1,((D6 x.2.1 2),z2)))
 (fun z3=>(bnd (Je z3) (fun z4=>(some z4))))))))))
def Vj (x:tqT):tqN:=(bnd (Sd x) (fun z1=>(bnd (Vm x) (fun z2=>(cnd (Ah z2) (some z1) (cnd x.1.2.2.2 (some z1)
 (cnd (iEq x.2.2.1 60000) (some z1) (bnd (Zt x.2.1) (fun z3=>(bnd (Zv (x.1,((Ai .i64 x.2.2.1 1),z3))) (fun z4=>(Ao (cnd (Ah z4.2.2.2)
 (some (.inl ((Ai .i64 x.2.2.1 1),(Ae z3)))) (some (.inl z1.2.2))) (fun (z5:(Int×Int))=>(some (z4,(z1.2.1,z5))))))))))))))))
def Vf (x:tqD):tqJ:=(bnd (Sd x.1) (fun z1=>(bnd (Zo (x.1.2.1,x.2)) (fun z2=>(bnd (Vm x.1) (fun z3
 => (cnd (Ah z3) (some (z1,false)) (cnd x.1.1.2.2.2 (some (z1,false)) (cnd (Ah z2.2) (some (z1,false)) (Ao (cnd (iEq z1.2.2.2 30) (bnd (Vj z1) (fun z4 =>
 (some (.inl (z4.1.1,(z4.1.2.1,(z4.1.2.2.1,(z4.1.2.2.2,(z4.2.1.1,(z4.2.1.2.1,(z4.2.1.2.2,z4.2.2))))))))))) (some (.inl (z1.1.1,(z1.1.2.1,(z1.1.2.2.1,(z1.1.2.2.2,
 (z1.2.1.1,(z1.2.1.2.1,(z1.2.1.2.2,z1.2.2)))))))))) (fun (z4:tqU)=>(cnd z4.2.2.2.1 (some (((z4.1,(z4.2.1,(z4.2.2.1,z4.2.2.2.1))),((z4.2.2.2.2.1,(z4.2.2.2.2.2.1,
 z4.2.2.2.2.2.2.1)),z4.2.2.2.2.2.2.2)),false)) (cnd (iEq z4.2.2.2.2.2.2.2.2 30) (some (((z4.1,(z4.2.1,(z4.2.2.1,z4.2.2.2.1))),((z4.2.2.2.2.1,(z4.2.2.2.2.2.1,
 z4.2.2.2.2.2.2.1)),z4.2.2.2.2.2.2.2)),false)) (bnd (N4 z4.2.2.2.2.2.2.2) (fun z5=>(bnd (P5 (z4.2.2.2.2.2.2.2.1,(z4.2.2.2.2.2.2.2.2,x.2))) (fun z6=>(bnd (H7 ((z4.1,(z4.2.1,(z4.2.2.1,z4.2.2.2.1))),(z5,z6))) (fun z7=>(bnd (Je z7) (fun z8=>(cnd z8.2.2.2 (some
 ((z8,((z4.2.2.2.2.1,(z4.2.2.2.2.2.1,z4.2.2.2.2.2.2.1)),z4.2.2.2.2.2.2.2)),false)) (some ((z8,(z2.1,(z4.2.2.2.2.2.2.2.1,(Ai .i64 z4.2.2.2.2.2.2.2.2 1)))),
 true))))))))))))))))))))))))
def Zgm (x:Y7):(Int)->Option U8:=fun (z1:Int)=>(cnd (iLt z1 (Ae x.1)) (bnd (idx x.1 z1) (fun z2=>(bnd (idx x.2 z1) (fun z3=>(cnd (iNe (y2i z2) (y2i z3)) (some (.inr false)) (some (.inl (Ai .i64 z1 1)))))))) (some (.inr true)))
def P6 (x:Y7):Bz:=(cnd (iNe (Ae x.1) (Ae x.2)) (some false) (Ar (Zgm x) 0))
def Zzn (x:Zyn):(Int)->Option U8:=fun (z1:Int)=>(cnd (iLt z1 (Ae x.1)) (bnd (idx x.1 z1) (fun z2=>(bnd (idx x.2 z1) (fun
 z3=>(bnd (P6 (z2,z3)) (fun z4=>(cnd (Ah z4) (some (.inr false)) (some (.inl (Ai .i64 z1 1)))))))))) (some (.inr true)))
def Zy (x:Zyn):Bz:=(cnd (iNe (Ae x.1) (Ae x.2)) (some false) (Ar (Zzn x) 0))
def Z3 (x:Y5):Bz:=(cnd (iNe x.1.1 x.2.1) (some false) (bnd (P6 (x.1.2,x.2.2)) (fun z1=>(cnd (Ah z1) (some false) (some
 true)))))
def Zzq (x:Zyi):(Int)->Option U8:=fun (z1:Int)=>(cnd (iLt z1 (Ae x.1)) (bnd (idx x.1 z1) (fun z2=>(bnd (idx x.2 z1) (fun z3=>(bnd (Z3 ((z2.1,z2.2),(z3.1,z3.2))) (fun z4=>(cnd (Ah z4) (some (.inr false)) (some (.inl (Ai .i64 z1 1)))))))))) (some (.inr true)))
def Z4 (x:Zyi):Bz:=(cnd (iNe (Ae x.1) (Ae x.2)) (some false) (Ar (Zzq x) 0))
def Vt (x:(Dm×Dm)):Bz:=(bnd (Zy (x.1.1,x.2.1)) (fun z1=>(cnd (Ah z1) (some false) (bnd (Z4 (x.1.2.1,x.2.2.1))
 (fun z2=>(cnd (Ah z2) (some false) (cnd (iNe x.1.2.2.1 x.2.2.2.1) (some false) (cnd (bNe x.1.2.2.2 x.2.2.2.2) (some false) (some true)))))))))
def Vr (x:Y5):Bz:=(cnd (iNe x.1.1 x.2.1) (some false) (bnd (P6 (x.1.2,x.2.2)) (fun z1=>(cnd (Ah z1) (some false) (some
 true)))))
def P7 (x:Zx3):Bz:=(cnd (Ah (sEq x.1.1 x.2.1)) (some false) (bnd (Vr ((x.1.2.1.1,x.1.2.1.2),(x.2.2.1.1,x.2.2.1.2))) (fun z1 =>
 (cnd (Ah z1) (some false) (bnd (Vr ((x.1.2.2.1.1,x.1.2.2.1.2),(x.2.2.2.1.1,x.2.2.2.1.2))) (fun z2=>(cnd (Ah z2) (some false) (cnd (iNe x.1.2.2.2.1
 x.2.2.2.2.1) (some false) (cnd (bNe x.1.2.2.2.2 x.2.2.2.2.2) (some false) (some true))))))))))
def Zzp (x:Zx2):(Int)->Option U8:=fun (z1:Int)=>(cnd (iLt z1 (Ae x.1)) (bnd (idx x.1 z1) (fun z2=>(bnd (idx x.2 z1) (fun z3=>(bnd (P7 ((z2.1,((z2.2.1.1,z2.2.1.2),((z2.2.2.1.1,z2.2.2.1.2),(z2.2.2.2.1,z2.2.2.2.2)))),(z3.1,((z3.2.1.1,z3.2.1.2),((z3.2.2.1.1,z3.2.2.1.2),
 (z3.2.2.2.1,z3.2.2.2.2)))))) (fun z4=>(cnd (Ah z4) (some (.inr false)) (some (.inl (Ai .i64 z1 1)))))))))) (some (.inr true)))
def Z2 (x:Zx2):Bz:=(cnd (iNe (Ae x.1) (Ae x.2)) (some false) (Ar (Zzp x) 0))
def Zz (x:(Gy×Gy)):Bz:=(cnd (iNe x.1.1 x.2.1) (some false) (cnd (iNe x.1.2.1 x.2.2.1) (some false) (cnd (iNe x.1.2.2 x.2.2.2) (some false) (some
 true))))
def Zzo (x:Zyj):(Int)->Option U8:=fun (z1:Int)=>(cnd (iLt z1 (Ae x.1)) (bnd (idx x.1 z1) (fun z2=>(bnd (idx x.2 z1) (fun z3=>(bnd (Zz ((z2.1,(z2.2.1,z2.2.2)),(z3.1,(z3.2.1,z3.2.2)))) (fun z4=>(cnd (Ah z4) (some (.inr false)) (some (.inl (Ai .i64 z1 1)))))))))) (some
 (.inr true)))
def Z0 (x:Zyj):Bz:=(cnd (iNe (Ae x.1) (Ae x.2)) (some false) (Ar (Zzo x) 0))
def Vu (x:(Du×Du)):Bz:=(bnd (Z2 (x.1.1,x.2.1)) (fun z1=>(cnd (Ah z1) (some false) (cnd (iNe x.1.2.1 x.2.2.1) (some false)
 (bnd (Z0 (x.1.2.2,x.2.2.2)) (fun z2=>(cnd (Ah z2) (some false) (some true))))))))
def P8 (x:(tqT×tqT)):Bz:=(bnd (Vt ((x.1.1.1,(x.1.1.2.1,(x.1.1.2.2.1,x.1.1.2.2.2))),(x.2.1.1,(x.2.1.2.1,(x.2.1.2.2.1,x.2.1.2.2.2)))))
 (fun z1=>(cnd (Ah z1) (some false) (bnd (Vu ((x.1.2.1.1,(x.1.2.1.2.1,x.1.2.1.2.2)),(x.2.2.1.1,(x.2.2.1.2.1,x.2.2.1.2.2)))) (fun z2=>(cnd (Ah
 z2) (some false) (cnd (iNe x.1.2.2.1 x.2.2.2.1) (some false) (cnd (iNe x.1.2.2.2 x.2.2.2.2) (some false) (some true)))))))))
def Z1 (x:(Hi×Hi)):Bz:=(cnd (iNe x.1.1 x.2.1) (some false) (bnd (P7 ((x.1.2.1.1,((x.1.2.1.2.1.1,x.1.2.1.2.1.2),((x.1.2.1.2.2.1.1,
 x.1.2.1.2.2.1.2),(x.1.2.1.2.2.2.1,x.1.2.1.2.2.2.2)))),(x.2.2.1.1,((x.2.2.1.2.1.1,x.2.2.1.2.1.2),((x.2.2.1.2.2.1.1,x.2.2.1.2.2.1.2),(x.2.2.1.2.2.2.1,x.2.2.1.2.2.2.2))))))
 (fun z1=>(cnd (Ah z1) (some false) (cnd (Ah (sEq x.1.2.2.1 x.2.2.2.1)) (some false) (cnd (iNe x.1.2.2.2.1 x.2.2.2.2.1) (some false) (cnd (iNe x.1.2.2.2.2.1
 x.2.2.2.2.2.1) (some false) (cnd (iNe x.1.2.2.2.2.2.1 x.2.2.2.2.2.2.1) (some false) (cnd (iNe x.1.2.2.2.2.2.2 x.2.2.2.2.2.2.2) (some false) (some true))))))))))
def Zbk:Zns->Option (Zns ⊕ (Df ⊕ Dw)):=fun (z1:Zns)=>(cnd (iLt z1.2.2 (Ae z1.1)) (bnd (idx z1.1 z1.2.2) (fun z2=>(some (.inl
 ((Ap z1.1 (nOf z1.2.2) (u8 (Ak .u8 z1.2.1))),((Ai .i64 z1.2.1 1),(Ai .i64 z1.2.2 1))))))) (some (.inr (.inl (z1.1,z1.2.1)))))
def L9 (x:Df):U6:=(Ao (Ar (Zbk) (x.1,(x.2,0))) (fun (z1:Df)=>(chk (nEq z1.1.length x.1.length) (some (z1.2,z1.1)))))
def Wh:Znp->Option (Znp ⊕ (Ge ⊕ Zyp)):=fun (z1:Znp)=>(cnd (iLt z1.2.2 (Ae z1.1)) (bnd (idx z1.1 z1.2.2) (fun z2 =>
 (bnd (idx z1.1 (Int.ofNat (nOf z1.2.2))) (fun z3=>(chk (nEq z3.length z2.length) (bnd (L9 (z2,z1.2.1)) (fun z4=>(chk (nEq z4.2.length
 z2.length) (bnd (idx z1.1 (Int.ofNat (nOf z1.2.2))) (fun z5=>(some (.inl ((Ap z1.1 (nOf z1.2.2) z4.2),(z4.1,(Ai .i64 z1.2.2 1))))))))))))))) (some (.inr
 (.inl (z1.1,z1.2.1)))))
def Zab (x:Ge):(Option Zyp):=(Ao (Ar (Wh) (x.1,(x.2,0))) (fun (z1:Ge)=>(chk (nEq z1.1.length x.1.length) (some (z1.2,
 z1.1)))))
def Wk:Znn->Option (Znn ⊕ (Hj ⊕ Zyo)):=fun (z1:Znn)=>(cnd (iLt z1.2.2 (Ae z1.1)) (bnd (idx z1.1 z1.2.2) (fun z2=>(bnd (idx
 (Ap z1.1 (nOf z1.2.2) (z1.2.1,z2.2)) z1.2.2) (fun z3=>(bnd (idx (Ap z1.1 (nOf z1.2.2) (z1.2.1,z2.2)) (Int.ofNat (nOf z1.2.2))) (fun z4=>(chk (nEq
 z4.2.length z3.2.length) (bnd (L9 (z3.2,(Ai .i64 z1.2.1 1))) (fun z5=>(chk (nEq z5.2.length z3.2.length) (bnd (idx (Ap z1.1 (nOf z1.2.2) (z1.2.1,
 z2.2)) (Int.ofNat (nOf z1.2.2))) (fun z6=>(some (.inl ((Ap (Ap z1.1 (nOf z1.2.2) (z1.2.1,z2.2)) (nOf z1.2.2) (z6.1,z5.2)),(z5.1,(Ai .i64 z1.2.2
 1))))))))))))))))) (some (.inr (.inl (z1.1,z1.2.1)))))
def Zah (x:Hj):(Option Zyo):=(Ao (Ar (Wk) (x.1,(x.2,0))) (fun (z1:Hj)=>(chk (nEq z1.1.length x.1.length) (some (z1.2,
 z1.1)))))
def Zac (x:Znl):(Option Yq1):=(bnd (Zab (x.1.1,x.2)) (fun z1=>(chk (nEq z1.2.length x.1.1.length) (bnd (Zah (x.1.2.1,
 z1.1)) (fun z2=>(chk (nEq z2.2.length x.1.2.1.length) (chk (nEq z1.2.length x.1.1.length) (chk (nEq z2.2.length x.1.2.1.length) (some (z2.1,(z1.2,z2.2)))))))))))
def Zbl:Dw->Option (Dw ⊕ ((List UInt8) ⊕ (List UInt8))):=fun (z1:Dw)=>(cnd (iGt z1.1 0) (chk (Ux [(u8 (Ak .u8 (Ai .i64 48 (D6 z1.1
 10))))] z1.2) (some (.inl ((Zjg .i64 z1.1 10),(Al [(u8 (Ak .u8 (Ai .i64 48 (D6 z1.1 10))))] z1.2))))) (some (.inr (.inl z1.2))))
def Vz (x:Int):E6:=(cnd (iLe x 0) (some [109,48]) (Ao (Ar (Zbl) (x,[])) (fun (z1:(List UInt8))=>(chk (Ux [109] z1) (some
 (Al [109] z1))))))
def Wj:Znh->Option (Znh ⊕ (Gc ⊕ Zyd)):=fun (z1:Znh)=>(cnd (iLt z1.2.2 (Ae z1.1)) (bnd (Vz z1.2.1) (fun z2 =>
 (bnd (idx z1.1 z1.2.2) (fun z3=>(bnd (idx (Ap z1.1 (nOf z1.2.2) (z2,((z3.2.1.1,z3.2.1.2),((z3.2.2.1.1,z3.2.2.1.2),(z3.2.2.2.1,z3.2.2.2.2))))) z1.2.2) (fun z4=>(bnd (idx (Ap (Ap z1.1 (nOf z1.2.2) (z2,((z3.2.1.1,z3.2.1.2),((z3.2.2.1.1,z3.2.2.1.2),(z3.2.2.2.1,z3.2.2.2.2))))) (nOf z1.2.2) (z4.1,(((Ai .i64 z1.2.1 1),
 z4.2.1.2),((z4.2.2.1.1,z4.2.2.1.2),(z4.2.2.2.1,z4.2.2.2.2))))) z1.2.2) (fun z5=>(bnd (idx (Ap (Ap z1.1 (nOf z1.2.2) (z2,((z3.2.1.1,z3.2.1.2),((z3.2.2.1.1,
 z3.2.2.1.2),(z3.2.2.2.1,z3.2.2.2.2))))) (nOf z1.2.2) (z4.1,(((Ai .i64 z1.2.1 1),z4.2.1.2),((z4.2.2.1.1,z4.2.2.1.2),(z4.2.2.2.1,z4.2.2.2.2))))) (Int.ofNat (nOf z1.2.2)))
 (fun z6=>(chk (nEq z6.2.1.2.length z5.2.1.2.length) (bnd (L9 (z5.2.1.2,(Ai .i64 (Ai .i64 z1.2.1 1) 1))) (fun z7=>(chk (nEq z7.2.length
 z5.2.1.2.length) (bnd (idx (Ap (Ap z1.1 (nOf z1.2.2) (z2,((z3.2.1.1,z3.2.1.2),((z3.2.2.1.1,z3.2.2.1.2),(z3.2.2.2.1,z3.2.2.2.2))))) (nOf z1.2.2) (z4.1,(((Ai .i64
 z1.2.1 1),z4.2.1.2),((z4.2.2.1.1,z4.2.2.1.2),(z4.2.2.2.1,z4.2.2.2.2))))) (Int.ofNat (nOf z1.2.2))) (fun z8=>(bnd (idx (Ap (Ap (Ap z1.1 (nOf z1.2.2) (z2,
 ((z3.2.1.1,z3.2.1.2),((z3.2.2.1.1,z3.2.2.1.2),(z3.2.2.2.1,z3.2.2.2.2))))) (nOf z1.2.2) (z4.1,(((Ai .i64 z1.2.1 1),z4.2.1.2),((z4.2.2.1.1,z4.2.2.1.2),(z4.2.2.2.1,
 z4.2.2.2.2))))) (nOf z1.2.2) (z8.1,((z8.2.1.1,z7.2),z8.2.2))) z1.2.2) (fun z9=>(bnd (idx (Ap (Ap (Ap (Ap z1.1 (nOf z1.2.2) (z2,((z3.2.1.1,z3.2.1.2),
 ((z3.2.2.1.1,z3.2.2.1.2),(z3.2.2.2.1,z3.2.2.2.2))))) (nOf z1.2.2) (z4.1,(((Ai .i64 z1.2.1 1),z4.2.1.2),((z4.2.2.1.1,z4.2.2.1.2),(z4.2.2.2.1,z4.2.2.2.2))))) (nOf
 z1.2.2) (z8.1,((z8.2.1.1,z7.2),z8.2.2))) (nOf z1.2.2) (z9.1,((z9.2.1.1,z9.2.1.2),((z7.1,z9.2.2.1.2),(z9.2.2.2.1,z9.2.2.2.2))))) z1.2.2) (fun z10=>(bnd (idx
 (Ap (Ap (Ap (Ap z1.1 (nOf z1.2.2) (z2,((z3.2.1.1,z3.2.1.2),((z3.2.2.1.1,z3.2.2.1.2),(z3.2.2.2.1,z3.2.2.2.2))))) (nOf z1.2.2) (z4.1,(((Ai .i64 z1.2.1 1),
 z4.2.1.2),((z4.2.2.1.1,z4.2.2.1.2),(z4.2.2.2.1,z4.2.2.2.2))))) (nOf z1.2.2) (z8.1,((z8.2.1.1,z7.2),z8.2.2))) (nOf z1.2.2) (z9.1,((z9.2.1.1,z9.2.1.2),((z7.1,
 z9.2.2.1.2),(z9.2.2.2.1,z9.2.2.2.2))))) (Int.ofNat (nOf z1.2.2))) (fun z11=>(chk (nEq z11.2.2.1.2.length z10.2.2.1.2.length) (bnd (L9 (z10.2.2.1.2,(Ai
 .i64 z7.1 1))) (fun z12=>(chk (nEq z12.2.length z10.2.2.1.2.length) (bnd (idx (Ap (Ap (Ap (Ap z1.1 (nOf z1.2.2) (z2,((z3.2.1.1,z3.2.1.2),((z3.2.2.1.1,
 z3.2.2.1.2),(z3.2.2.2.1,z3.2.2.2.2))))) (nOf z1.2.2) (z4.1,(((Ai .i64 z1.2.1 1),z4.2.1.2),((z4.2.2.1.1,z4.2.2.1.2),(z4.2.2.2.1,z4.2.2.2.2))))) (nOf z1.2.2) (z8.1,
 ((z8.2.1.1,z7.2),z8.2.2))) (nOf z1.2.2) (z9.1,((z9.2.1.1,z9.2.1.2),((z7.1,z9.2.2.1.2),(z9.2.2.2.1,z9.2.2.2.2))))) (Int.ofNat (nOf z1.2.2))) (fun z13=>(bnd (idx
 (Ap (Ap (Ap (Ap (Ap z1.1 (nOf z1.2.2) (z2,((z3.2.1.1,z3.2.1.2),((z3.2.2.1.1,z3.2.2.1.2),(z3.2.2.2.1,z3.2.2.2.2))))) (nOf z1.2.2) (z4.1,(((Ai .i64 z1.2.1 1),
 z4.2.1.2),((z4.2.2.1.1,z4.2.2.1.2),(z4.2.2.2.1,z4.2.2.2.2))))) (nOf z1.2.2) (z8.1,((z8.2.1.1,z7.2),z8.2.2))) (nOf z1.2.2) (z9.1,((z9.2.1.1,z9.2.1.2),((z7.1,
 z9.2.2.1.2),(z9.2.2.2.1,z9.2.2.2.2))))) (nOf z1.2.2) (z13.1,(z13.2.1,((z13.2.2.1.1,z12.2),z13.2.2.2)))) z1.2.2) (fun z14=>(bnd (idx (Ap (Ap (Ap (Ap (Ap
 (Ap z1.1 (nOf z1.2.2) (z2,((z3.2.1.1,z3.2.1.2),((z3.2.2.1.1,z3.2.2.1.2),(z3.2.2.2.1,z3.2.2.2.2))))) (nOf z1.2.2) (z4.1,(((Ai .i64 z1.2.1 1),z4.2.1.2),((z4.2.2.1.1,
 z4.2.2.1.2),(z4.2.2.2.1,z4.2.2.2.2))))) (nOf z1.2.2) (z8.1,((z8.2.1.1,z7.2),z8.2.2))) (nOf z1.2.2) (z9.1,((z9.2.1.1,z9.2.1.2),((z7.1,z9.2.2.1.2),(z9.2.2.2.1,
 z9.2.2.2.2))))) (nOf z1.2.2) (z13.1,(z13.2.1,((z13.2.2.1.1,z12.2),z13.2.2.2)))) (nOf z1.2.2) (z14.1,((z14.2.1.1,z14.2.1.2),((z14.2.2.1.1,z14.2.2.1.2),(z12.1,
 z14.2.2.2.2))))) z1.2.2) (fun z15=>(some (.inl ((Ap (Ap (Ap (Ap (Ap (Ap (Ap z1.1 (nOf z1.2.2) (z2,((z3.2.1.1,z3.2.1.2),((z3.2.2.1.1,z3.2.2.1.2),
 (z3.2.2.2.1,z3.2.2.2.2))))) (nOf z1.2.2) (z4.1,(((Ai .i64 z1.2.1 1),z4.2.1.2),((z4.2.2.1.1,z4.2.2.1.2),(z4.2.2.2.1,z4.2.2.2.2))))) (nOf z1.2.2) (z8.1,((z8.2.1.1,z7.2),
 z8.2.2))) (nOf z1.2.2) (z9.1,((z9.2.1.1,z9.2.1.2),((z7.1,z9.2.2.1.2),(z9.2.2.2.1,z9.2.2.2.2))))) (nOf z1.2.2) (z13.1,(z13.2.1,((z13.2.2.1.1,z12.2),z13.2.2.2)))) (nOf
 z1.2.2) (z14.1,((z14.2.1.1,z14.2.1.2),((z14.2.2.1.1,z14.2.2.1.2),(z12.1,z14.2.2.2.2))))) (nOf z1.2.2) (z15.1,((z15.2.1.1,z15.2.1.2),((z15.2.2.1.1,z15.2.2.1.2),
 (z15.2.2.2.1,(iEq (D6 (Ai .i64 z12.1 1) 3) 0)))))),((Ai .i64 (Ai .i64 z12.1 1) 1),(Ai .i64 z1.2.2 1))))))))))))))))))))))))))))))))))))) (some (.inr (.inl (z1.1,
 z1.2.1)))))
def Zaf (x:Gc):(Option Zyd):=(Ao (Ar (Wj) (x.1,(x.2,0))) (fun (z1:Gc)=>(chk (nEq z1.1.length x.1.length) (some (z1.2,
 z1.1)))))
def Wi:Zfn->Option (Zfn ⊕ (Ns ⊕ Znq)):=fun (z1:Zfn)=>(cnd (iLt z1.2.2 (Ae z1.1)) (bnd (idx z1.1 z1.2.2) (fun z2=>(bnd (idx
 (Ap z1.1 (nOf z1.2.2) (z1.2.1,(z2.2.1,z2.2.2))) z1.2.2) (fun z3=>(bnd (idx (Ap (Ap z1.1 (nOf z1.2.2) (z1.2.1,(z2.2.1,z2.2.2))) (nOf z1.2.2) (z3.1,((Ai
 .i64 z1.2.1 1),z3.2.2))) z1.2.2) (fun z4=>(some (.inl ((Ap (Ap (Ap z1.1 (nOf z1.2.2) (z1.2.1,(z2.2.1,z2.2.2))) (nOf z1.2.2) (z3.1,((Ai .i64 z1.2.1 1),
 z3.2.2))) (nOf z1.2.2) (z4.1,(z4.2.1,(Ai .i64 (Ai .i64 z1.2.1 1) 1)))),((Ai .i64 (Ai .i64 (Ai .i64 z1.2.1 1) 1) 1),(Ai .i64 z1.2.2 1))))))))))) (some (.inr (.inl
 (z1.1,z1.2.1)))))
def Zad (x:Ns):(Option Znq):=(Ao (Ar (Wi) (x.1,(x.2,0))) (fun (z1:Ns)=>(chk (nEq z1.1.length x.1.length) (some (z1.2,
 z1.1)))))
def Zag (x:Znf):(Option Yqy):=(bnd (Zaf (x.1.1,x.2)) (fun z1=>(chk (nEq z1.2.length x.1.1.length) (bnd (Zad (x.1.2.2,
 z1.1)) (fun z2=>(chk (nEq z2.2.length x.1.2.2.length) (chk (nEq z1.2.length x.1.1.length) (chk (nEq z2.2.length x.1.2.2.length) (some (z2.1,(z1.2,z2.2)))))))))))
def Vy (x:tqQ):(Option Yqw):=(bnd (Zac (x.1.1,x.2)) (fun z1=>(chk (nEq z1.2.1.length x.1.1.1.length) (chk (nEq z1.2.2.length
 x.1.1.2.1.length) (bnd (Zag (x.1.2.1,z1.1)) (fun z2=>(chk (nEq z2.2.1.length x.1.2.1.1.length) (chk (nEq z2.2.2.length x.1.2.1.2.2.length) (chk (nEq
 z1.2.1.length x.1.1.1.length) (chk (nEq z1.2.2.length x.1.1.2.1.length) (chk (nEq z2.2.1.length x.1.2.1.1.length) (chk (nEq z2.2.2.length x.1.2.1.2.2.length) (some (z2.1,
 (z1.2.1,(z1.2.2,z2.2))))))))))))))))
def P9 (x:Znr):U6:=(bnd (L9 (x.1.2,x.2)) (fun z1=>(chk (nEq z1.2.length x.1.2.length) (chk (nEq z1.2.length x.1.2.length)
 (some (z1.1,z1.2))))))
def Vx (x:Zyf):Zym:=(bnd (P9 ((x.1.2.1.1,x.1.2.1.2),x.2)) (fun z1=>(chk (nEq z1.2.length x.1.2.1.2.length) (bnd (P9
 ((x.1.2.2.1.1,x.1.2.2.1.2),z1.1)) (fun z2=>(chk (nEq z2.2.length x.1.2.2.1.2.length) (chk (nEq z1.2.length x.1.2.1.2.length) (chk (nEq z2.2.length
 x.1.2.2.1.2.length) (some (z2.1,(z1.2,z2.2)))))))))))
def Zae (x:Zx6):Zym:=(bnd (Vx ((x.1.2.1.1,((x.1.2.1.2.1.1,x.1.2.1.2.1.2),((x.1.2.1.2.2.1.1,x.1.2.1.2.2.1.2),(x.1.2.1.2.2.2.1,
 x.1.2.1.2.2.2.2)))),x.2)) (fun z1=>(chk (nEq z1.2.1.length x.1.2.1.2.1.2.length) (chk (nEq z1.2.2.length x.1.2.1.2.2.1.2.length) (chk (nEq z1.2.1.length
 x.1.2.1.2.1.2.length) (chk (nEq z1.2.2.length x.1.2.1.2.2.1.2.length) (some (z1.1,(z1.2.1,z1.2.2)))))))))
def Zgo (x:Df):(Int×Int)->Option K1:=fun (z1:(Int×Int))=>(cnd (iLt z1.2 (Ae x.1)) (bnd (idx x.1 z1.2) (fun z2=>(cnd (iNe
 (y2i z2) (y2i (u8 (Ak .u8 z1.1)))) (some (.inr (.inr (-1)))) (some (.inl ((Ai .i64 z1.1 1),(Ai .i64 z1.2 1))))))) (some (.inr (.inl z1.1))))
def L8 (x:Df):(Option Int):=(Ao (Ar (Zgo x) (x.2,0)) (fun (z1:Int)=>(some z1)))
def Zgn (x:Ge):(Int×Int)->Option K1:=fun (z1:(Int×Int))=>(cnd (iLt z1.2 (Ae x.1)) (bnd (idx x.1 z1.2) (fun z2 =>
 (bnd (L8 (z2,z1.1)) (fun z3=>(cnd (iLt z3 0) (some (.inr (.inr (-1)))) (some (.inl (z3,(Ai .i64 z1.2 1))))))))) (some (.inr (.inl z1.1))))
def Z5 (x:Ge):(Option Int):=(Ao (Ar (Zgn x) (x.2,0)) (fun (z1:Int)=>(some z1)))
def Zbj (x:Hj):(Int×Int)->Option K1:=fun (z1:(Int×Int))=>(cnd (iLt z1.2 (Ae x.1)) (bnd (idx x.1 z1.2) (fun z2=>(cnd (iNe
 z2.1 z1.1) (some (.inr (.inr (-1)))) (bnd (idx x.1 z1.2) (fun z3=>(bnd (L8 (z3.2,(Ai .i64 z1.1 1))) (fun z4=>(cnd (iLt z4 0) (some (.inr (.inr
 (-1)))) (some (.inl (z4,(Ai .i64 z1.2 1)))))))))))) (some (.inr (.inl z1.1))))
def Zaa (x:Hj):(Option Int):=(Ao (Ar (Zbj x) (x.2,0)) (fun (z1:Int)=>(some z1)))
def Z6 (x:Znl):(Option Int):=(bnd (Z5 (x.1.1,x.2)) (fun z1=>(cnd (iLt z1 0) (some (-1)) (bnd (Zaa (x.1.2.1,z1)) (fun
 z2=>(cnd (iLt z2 0) (some (-1)) (some z2)))))))
def Zbi (x:Gc):(Int×Int)->Option K1:=fun (z1:(Int×Int))=>(cnd (iLt z1.2 (Ae x.1)) (bnd (idx x.1 z1.2) (fun z2=>(bnd
 (Vz z1.1) (fun z3=>(cnd (Ah (sEq z2.1 z3)) (some (.inr (.inr (-1)))) (bnd (idx x.1 z1.2) (fun z4=>(cnd (iNe z4.2.1.1 (Ai .i64 z1.1 1))
 (some (.inr (.inr (-1)))) (bnd (idx x.1 z1.2) (fun z5=>(bnd (L8 (z5.2.1.2,(Ai .i64 (Ai .i64 z1.1 1) 1))) (fun z6=>(cnd (iLt z6 0) (some (.inr
 (.inr (-1)))) (bnd (idx x.1 z1.2) (fun z7=>(cnd (iNe z7.2.2.1.1 z6) (some (.inr (.inr (-1)))) (bnd (idx x.1 z1.2) (fun z8=>(bnd (L8 (z8.2.2.1.2,
 (Ai .i64 z6 1))) (fun z9=>(cnd (iLt z9 0) (some (.inr (.inr (-1)))) (bnd (idx x.1 z1.2) (fun z10=>(cnd (iNe z10.2.2.2.1 z9) (some (.inr (.inr (-1)))) (bnd
 (idx x.1 z1.2) (fun z11=>(cnd (bNe z11.2.2.2.2 (iEq (D6 (Ai .i64 z9 1) 3) 0)) (some (.inr (.inr (-1)))) (some (.inl ((Ai .i64 (Ai .i64 z9 1) 1),(Ai .i64
 z1.2 1))))))))))))))))))))))))))))))) (some (.inr (.inl z1.1))))
def Z8 (x:Gc):(Option Int):=(Ao (Ar (Zbi x) (x.2,0)) (fun (z1:Int)=>(some z1)))
def Zbh (x:Ns):(Int×Int)->Option K1:=fun (z1:(Int×Int))=>(cnd (iLt z1.2 (Ae x.1)) (bnd (idx x.1 z1.2) (fun z2=>(cnd (iNe
 z2.1 z1.1) (some (.inr (.inr (-1)))) (bnd (idx x.1 z1.2) (fun z3=>(cnd (iNe z3.2.1 (Ai .i64 z1.1 1)) (some (.inr (.inr (-1)))) (bnd (idx x.1 z1.2) (fun z4
 => (cnd (iNe z4.2.2 (Ai .i64 (Ai .i64 z1.1 1) 1)) (some (.inr (.inr (-1)))) (some (.inl ((Ai .i64 (Ai .i64 (Ai .i64 z1.1 1) 1) 1),(Ai .i64 z1.2 1))))))))))))) (some
 (.inr (.inl z1.1))))
def Z7 (x:Ns):(Option Int):=(Ao (Ar (Zbh x) (x.2,0)) (fun (z1:Int)=>(some z1)))
def Z9 (x:Znf):(Option Int):=(bnd (Z8 (x.1.1,x.2)) (fun z1=>(cnd (iLt z1 0) (some (-1)) (bnd (Z7 (x.1.2.2,z1)) (fun
 z2=>(cnd (iLt z2 0) (some (-1)) (some z2)))))))
def Vv (x:tqQ):(Option Int):=(bnd (Z6 (x.1.1,x.2)) (fun z1=>(cnd (iLt z1 0) (some (-1)) (bnd (Z9 (x.1.2.1,z1)) (fun z2=>(cnd (iLt z2 0) (some (-1)) (some z2)))))))
def Zf1 (x:tqD):Bz:=(bnd (Zam (x.1,1048576)) (fun z1=>(cnd (iLt z1 0) (some true) (bnd (Zak (x.2,z1)) (fun z2 =>
 (cnd (iLt z2 0) (some true) (al 3 (bnd (Qd x.1) (fun z3=>(bnd (Qb x.2) (fun z4=>(bnd (Zau (z3,z4)) (fun z5=>(bnd (Qd
 x.1) (fun z6=>(bnd (Qb x.2) (fun z7=>(bnd (Vf (z6,z7)) (fun z8=>(bnd (P8 (z8.1,z5.1)) (fun z9=>(cnd (Ah z9)
 (some false) (cnd (bNe z8.2 z5.2) (some false) (bnd (Qd x.1) (fun z10=>(bnd (P8 (z6,z10)) (fun z11=>(cnd (Ah z11) (some false) (bnd
 (Qb x.2) (fun z12=>(bnd (Z1 (z7,z12)) (fun z13=>(cnd (Ah z13) (some false) (bnd (Vy (z6,1)) (fun z14=>(chk (nEq
 z14.2.1.length z6.1.1.length) (chk (nEq z14.2.2.1.length z6.1.2.1.length) (chk (nEq z14.2.2.2.1.length z6.2.1.1.length) (chk (nEq z14.2.2.2.2.length z6.2.1.2.2.length) (bnd
 (Zae (z7,z14.1)) (fun z15=>(chk (nEq z15.2.1.length z7.2.1.2.1.2.length) (chk (nEq z15.2.2.length z7.2.1.2.2.1.2.length) (cnd (iLt z15.1 0) (some false) (bnd
 (P8 (z8.1,z5.1)) (fun z16=>(cnd (Ah z16) (some false) (cnd (bNe z8.2 z5.2) (some false) (bnd (Vy (z8.1,1)) (fun z17=>(chk (nEq
 z17.2.1.length z8.1.1.1.length) (chk (nEq z17.2.2.1.length z8.1.1.2.1.length) (chk (nEq z17.2.2.2.1.length z8.1.2.1.1.length) (chk (nEq z17.2.2.2.2.length z8.1.2.1.2.2.length)
 (bnd (Vv (((z17.2.1,(z17.2.2.1,z8.1.1.2.2)),((z17.2.2.2.1,(z8.1.2.1.2.1,z17.2.2.2.2)),z8.1.2.2)),1)) (fun z18=>(cnd (iLt z18 0) (some false) (cnd (iNe
 z18 z17.1) (some false) (al 3 (bnd (Qd x.1) (fun z19=>(bnd (Qb x.2) (fun z20=>(bnd (Vf (z19,z20)) (fun z21=>(bnd (P8
 (z21.1,z5.1)) (fun z22=>(cnd (Ah z22) (some false) (cnd (bNe z21.2 z5.2) (some false) (bnd (Vv (((z17.2.1,(z17.2.2.1,z8.1.1.2.2)),((z17.2.2.2.1,
 (z8.1.2.1.2.1,z17.2.2.2.2)),z8.1.2.2)),1)) (fun z23=>(cnd (iLt z23 0) (some false) (cnd (iNe z23 z17.1) (some false) (some
 true))))))))))))))))))))))))))))))))))))))))))))))))))))))))))))))))))))))))))
end
end Go.Vs
