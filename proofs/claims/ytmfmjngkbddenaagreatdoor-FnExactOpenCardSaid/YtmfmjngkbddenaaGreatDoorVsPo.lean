import Derived.Test.YtmfmjngkbddenaaGreatDoorVsW5
import Derived.Test.YtmfmjngkbddenaaGreatDoorVsW6
set_option linter.all false
namespace Go.Vs
noncomputable section
def P5:List UInt8:=[240,240,240,240,240,240,240,240,240,240,240,240,240,240,240,240,240,240,240,240,240,240,240,240,240,240,240,240,240,240,
 240,240,240,240,240,240,240,240,240,240,240,240,240,240,240,240,240,240,240,240,240,240,240,240,240,240,240,240,240,240,240,240,240,240,240,
 240,240,240,240,240,240,240,240,240,240,240,240,240,240,240,240,240,240,240,240,240,240,240,240,240,240,240,240,240,240,240,240,240,240,240,
 240,240,240,240,240,240,240,240,240,240,240,240,240,240,240,240,240,240,240,240,240,240,240,240,240,240,240,240,241,241,241,241,241,241,241,
 241,241,241,241,241,241,241,241,241,241,241,241,241,241,241,241,241,241,241,241,241,241,241,241,241,241,241,241,241,241,241,241,241,241,241,
 241,241,241,241,241,241,241,241,241,241,241,241,241,241,241,241,241,241,241,241,241,241,241,241,2,2,2,2,2,2,2,2,2,2,2,2,2,2,2,2,2,2,2,
 2,2,2,2,2,2,2,2,2,2,2,19,3,3,3,3,3,3,3,3,3,3,3,3,35,3,3,52,4,4,4,68,241,241,241,241,241,241,241,241,241,241,241]
def U9:List UInt8:=[128,191,160,191,128,159,144,191,128,143,0,0,0,0,0,0,0,0,0,0,0,0,0,0,0,0,0,0,0,0,0,0]
instance glbI:Glb:=⟨[(0,P5),(1,U9)]⟩
def al {β:Type}:Nat->Option β->Option β
 | 0,e=>e
 | n+1,e=>Rq e (al n e)
theorem Rp {β:Type}(n:Nat) (e:Option β):al n e=e:=by induction n with
 | zero=>rfl
 | succ n ih=>rw[al,ih,Zq4]
abbrev Cb:Type:=(Option Bool)
abbrev Wu:Type:=((Int) ⊕ Bool)
abbrev Iw:Type:=(Int×(Int×Int))
abbrev Ek:Type:=(List (List UInt8))
abbrev Zp7:Type:=(Int×(Int×Bool))
abbrev Eb:Type:=(Int×(List UInt8))
abbrev Dd:Type:=((List UInt8)×Int)
abbrev Yuu:Type:=(Bool×(Int×Bool))
abbrev Yb4:Type:=((List UInt8)×Bool)
abbrev Zh2:Type:=(Option (Int×Bool))
abbrev Ff:Type:=(Option (List UInt8))
abbrev O2:Type:=((Int) ⊕ (Unit ⊕ Bool))
abbrev F9:Type:=(List Iw)
abbrev Yb3:Type:=(Int×Ek)
abbrev E6:Type:=(List Eb)
abbrev M2:Type:=((Int×Int) ⊕ (Int ⊕ Int))
abbrev Gs:Type:=(Ek×Int)
abbrev Zp6:Type:=((List UInt8)×(Int×Int))
abbrev Yut:Type:=(Eb×Int)
abbrev J6:Type:=((List UInt8)×(Int×Bool))
abbrev Zh1:Type:=((List UInt8)×(List UInt8))
abbrev Iv:Type:=(Option Zp7)
abbrev Zh0:Type:=(Option Eb)
abbrev Yb2:Type:=(Option Yuu)
abbrev Zhz:Type:=(Option Yb4)
abbrev Zp5:Type:=(Int×F9)
abbrev Wt:Type:=(F9×Int)
abbrev Yb1:Type:=(Int×E6)
abbrev Zp4:Type:=(Ek×(Int×Int))
abbrev Tn:Type:=(F9×Bool)
abbrev Yb0:Type:=(Option F9)
abbrev H9:Type:=(E6×Int)
abbrev Zhy:Type:=(Int×(Bool×Eb))
abbrev Ybz:Type:=(Eb×(Int×Bool))
abbrev Zhx:Type:=(Option J6)
abbrev Zhw:Type:=(F9×(Int×Int))
abbrev Zp3:Type:=(E6×(Int×Int))
abbrev Yby:Type:=(Ek×Ek)
abbrev Za5:Type:=(F9×(Bool×Int))
abbrev Zhv:Type:=(E6×(Int×Bool))
abbrev Za4:Type:=(Eb×Eb)
abbrev Ybx:Type:=(Option Ybz)
abbrev Za3:Type:=(F9×Iw)
abbrev Ybw:Type:=((Int×Int) ⊕ (Int ⊕ M2))
abbrev Zhu:Type:=(E6×(Int×(Bool×Int)))
abbrev Ybv:Type:=(Dd ⊕ ((List UInt8) ⊕ (List UInt8)))
abbrev Ybu:Type:=(F9×F9)
abbrev Yus:Type:=(Int×(Ek×E6))
abbrev Ybt:Type:=(E6×E6)
abbrev Ybs:Type:=(Dd ⊕ ((List UInt8) ⊕ Yb4))
abbrev Dg:Type:=(Ek×Zhv)
abbrev Zp2:Type:=(Ek×Zhu)
abbrev O1:Type:=(Dg×Int)
abbrev Ybr:Type:=(Dg×Bool)
abbrev Ws:Type:=(Option Dg)
abbrev Hj:Type:=((List UInt8)×(Eb×Ybz))
abbrev Ea:Type:=(List Hj)
abbrev Ybq:Type:=(Option Hj)
abbrev Zp1:Type:=(Ek×(E6×(Int×(Bool×Iw))))
abbrev Ybp:Type:=(Dg×Eb)
abbrev Ybo:Type:=(Int×Ea)
abbrev J5:Type:=(Ea×Int)
abbrev Wq:Type:=(Ea×Bool)
abbrev Ybn:Type:=(Option Ea)
abbrev Yur:Type:=(Hj×(Int×Bool))
abbrev Ybm:Type:=((List UInt8)×Hj)
abbrev Yuq:Type:=((List UInt8)×((Int×Ff)×((Int×Ff)×(Int×Bool))))
abbrev Zp0:Type:=(Ea×(Int×Int))
abbrev Q3:Type:=(List Yuq)
abbrev Ybl:Type:=(Option Yur)
abbrev Ybk:Type:=(Int×(Int×((List UInt8)×(Int×(Int×(Int×(Bool×((List UInt8)×(Int×Iw)))))))))
abbrev Zht:Type:=(Int×((List UInt8)×(Int×(Int×(Int×(Bool×((List UInt8)×(Int×(Int×Iw)))))))))
abbrev Yup:Type:=(Bool×(Int×((List UInt8)×(Int×(Int×(Int×(Bool×((List UInt8)×(Int×Iw)))))))))
abbrev Ybj:Type:=(Za5 ⊕ (Tn ⊕ F9))
abbrev Ybi:Type:=((List UInt8)×(Int×((List UInt8)×(Int×((List UInt8)×(Int×(Bool×((List UInt8)×Zp7))))))))
abbrev Zpz:Type:=(Gs ⊕ (Ek ⊕ Dg))
abbrev Yuo:Type:=(Int×(Ea×F9))
abbrev D9:Type:=(Ea×Zp5)
abbrev Zhs:Type:=(D9×Int)
abbrev Yun:Type:=(D9×Bool)
abbrev Ybh:Type:=(Option D9)
abbrev M1:Type:=(Int×(Hj×((List UInt8)×(Int×Iw))))
abbrev Ybg:Type:=(H9 ⊕ (E6 ⊕ Dg))
abbrev Ybf:Type:=(Option Zhs)
abbrev Ybe:Type:=(D9×(List UInt8))
abbrev M0:Type:=(List M1)
abbrev Ybd:Type:=(Option Yun)
abbrev O0:Type:=(M0×Int)
abbrev Ybc:Type:=(Int×(Int×M1))
abbrev Ybb:Type:=(Option M0)
abbrev Yum:Type:=(Int×(Int×(M1×Bool)))
abbrev Yba:Type:=(Hj×Hj)
abbrev Ya9:Type:=(Option Yum)
abbrev Ya8:Type:=(Ea×Ea)
abbrev Yul:Type:=(Int×(Ek×(E6×(Ea×F9))))
abbrev tqZ:Type:=(Wq ⊕ Ea)
abbrev tqY:Type:=(Q3×Hj)
abbrev tqX:Type:=(Ea×(Int×((List UInt8)×(Int×(Int×(Int×(Bool×((List UInt8)×(Int×Iw)))))))))
abbrev tqW:Type:=(Ea×(Bool×(Q3×Int)))
abbrev tqV:Type:=(Q3×(Ea×(Bool×Int)))
abbrev tqU:Type:=(Ek×(E6×(Int×(Bool×(Ea×(Int×Zhw))))))
abbrev tqT:Type:=(Dg×(D9×(Int×Int)))
abbrev tqS:Type:=(Q3×Zht)
abbrev tqR:Type:=(Ek×(E6×(Int×(Bool×(Ea×(Int×Za3))))))
abbrev tqQ:Type:=(tqT×Int)
abbrev tqP:Type:=(tqT×Bool)
abbrev tqN:Type:=(Option tqT)
abbrev tqM:Type:=(Dg×(Int×M0))
abbrev tqL:Type:=(Q3×(Int×((List UInt8)×(Int×(Int×(Int×(Bool×((List UInt8)×(Int×(Int×(Int×Iw)))))))))))
abbrev tqK:Type:=(Ea×M1)
abbrev tqJ:Type:=(Option tqP)
abbrev tqI:Type:=(Q3×M1)
abbrev tqH:Type:=(Ea×(Int×(F9×D9)))
abbrev tqG:Type:=(Ea×(Int×(F9×(Ea×(Int×Wt)))))
abbrev tqF:Type:=(D9×M1)
abbrev tqE:Type:=(J5 ⊕ (Ea ⊕ D9))
abbrev tqC:Type:=(O0 ⊕ (M0 ⊕ M0))
abbrev tqB:Type:=(tqG ⊕ (tqH ⊕ Zhs))
abbrev tqA:Type:=(tqR ⊕ (tqU ⊕ tqP))
def Xm (x:Dd):(Option Int):=(cnd (iLt (A1 .i64 x.2 (Ae x.1)) 0) (some (-1)) (some (A1 .i64 x.2 (Ae x.1))))
def Yc7 (x:Gs):(Int×Int)->Option M2:=fun (z1:(Int×Int))=>(cnd (iLt z1.2 (Ae x.1)) (bnd (idx x.1 z1.2) (fun z2=>(bnd
 (Xm (z2,z1.1)) (fun z3=>(cnd (iLt z3 0) (some (.inr (.inr (-1)))) (some (.inl (z3,(Aj .i64 z1.2 1))))))))) (some (.inr (.inl z1.1))))
def Zij (x:Gs):(Option Int):=(cnd (iLt (A1 .i64 x.2 (Ae x.1)) 0) (some (-1)) (Ao (Ar (Yc7 x) ((A1 .i64 x.2 (Ae x.1)),0))
 (fun (z1:Int)=>(some z1))))
def Zcf (x:Yut):(Option Int):=(bnd (Xm (x.1.2,x.2)) (fun z1=>(cnd (iLt z1 0) (some (-1)) (some z1))))
def Yc8 (x:H9):(Int×Int)->Option M2:=fun (z1:(Int×Int))=>(cnd (iLt z1.2 (Ae x.1)) (bnd (idx x.1 z1.2) (fun z2=>(bnd (Zcf
 ((z2.1,z2.2),z1.1)) (fun z3=>(cnd (iLt z3 0) (some (.inr (.inr (-1)))) (some (.inl (z3,(Aj .i64 z1.2 1))))))))) (some (.inr (.inl z1.1))))
def Zik (x:H9):(Option Int):=(cnd (iLt (A1 .i64 x.2 (Ae x.1)) 0) (some (-1)) (Ao (Ar (Yc8 x) ((A1 .i64 x.2 (Ae x.1)),0)) (fun (z1
 : Int)=>(some z1))))
def Zce (x:O1):(Option Int):=(bnd (Zij (x.1.1,x.2)) (fun z1=>(cnd (iLt z1 0) (some (-1)) (bnd (Zik (x.1.2.1,z1)) (fun z2=>(cnd (iLt z2 0) (some (-1)) (some z2)))))))
def Yda (x:(List UInt8)):Dd->Option Ybv:=fun (z1:Dd)=>(cnd (iLt z1.2 (Ae x)) (bnd (idx x z1.2) (fun z2=>(bnd (idx z1.1 z1.2)
 (fun z3=>(some (.inl ((Aq z1.1 (nOf z1.2) z2),(Aj .i64 z1.2 1)))))))) (some (.inr (.inl z1.1))))
def T6 (x:(List UInt8)):Ff:=(chk (iEq (Ae x) (Ae x)) (chk (Qn (Ae x) 1) (Ao (Ar (Yda x) ((Fu (nOf (Ae x)) 0),0)) (fun
 (z1:(List UInt8))=>(some z1)))))
def Yc9 (x:Ek):Gs->Option (Gs ⊕ (Ek ⊕ Ek)):=fun (z1:Gs)=>(cnd (iLt z1.2 (Ae x)) (bnd (idx x z1.2) (fun z2=>(bnd
 (T6 z2) (fun z3=>(bnd (idx z1.1 z1.2) (fun z4=>(some (.inl ((Aq z1.1 (nOf z1.2) z3),(Aj .i64 z1.2 1)))))))))) (some (.inr
 (.inl z1.1))))
def Zcg (x:Ek):(Option Ek):=(chk (iEq (Ae x) (Ae x)) (chk (Qn (Ae x) 24) (Ao (Ar (Yc9 x) ((Fu (nOf (Ae x)) []),0))
 (fun (z1:Ek)=>(some z1)))))
def Zch (x:Eb):Zh0:=(bnd (T6 x.2) (fun z1=>(some (x.1,z1))))
def Ydb (x:E6):H9->Option (H9 ⊕ (E6 ⊕ E6)):=fun (z1:H9)=>(cnd (iLt z1.2 (Ae x)) (bnd (idx x z1.2) (fun z2=>(bnd (Zch
 (z2.1,z2.2)) (fun z3=>(bnd (idx z1.1 z1.2) (fun z4=>(some (.inl ((Aq z1.1 (nOf z1.2) (z3.1,z3.2)),(Aj .i64 z1.2 1)))))))))) (some (.inr (.inl
 z1.1))))
def Zci (x:E6):(Option E6):=(chk (iEq (Ae x) (Ae x)) (chk (Qn (Ae x) 32) (Ao (Ar (Ydb x) ((Fu (nOf (Ae x)) (0,[])),0))
 (fun (z1:E6)=>(some z1)))))
def Rg (x:Dg):Ws:=(bnd (Zcg x.1) (fun z1=>(bnd (Zci x.2.1) (fun z2=>(some (z1,(z2,(x.2.2.1,x.2.2.2))))))))
def Zdj (x:Dg):Gs->Option Zpz:=fun (z1:Gs)=>(cnd (iLt z1.2 (Ae x.1)) (bnd (idx x.1 z1.2) (fun z2=>(chk (A6 (0 +
 z2.length) 1) (chk (A6 (z1.1.length+1) 24) (some (.inl ((Al z1.1 [(Al [] z2)]),(Aj .i64 z1.2 1)))))))) (some (.inr (.inl z1.1))))
def Zdk (x:Dg):H9->Option Ybg:=fun (z2:H9)=>(cnd (iLt z2.2 (Ae x.2.1)) (bnd (idx x.2.1 z2.2) (fun z3=>(bnd (idx x.2.1 z2.2)
 (fun z4=>(chk (A6 (0+z4.2.length) 1) (chk (A6 (z2.1.length+1) 32) (some (.inl ((Al z2.1 [(z3.1,(Al [] z4.2))]),(Aj .i64 z2.2 1)))))))))) (some (.inr
 (.inl z2.1))))
def Ud (x:Dg):Ws:=(Ao (Ar (Zdj x) ([],0)) (fun (z1:Ek)=>(Ao (Ar (Zdk x) ([],0)) (fun (z2:E6)=>(some
 (z1,(z2,(x.2.2.1,x.2.2.2))))))))
def Xz (x:Eb):Zh0:=(chk (A6 (0+x.2.length) 1) (some (x.1,(Al [] x.2))))
def Pj (x:Hj):Ybq:=(bnd (Xz (x.2.1.1,x.2.1.2)) (fun z1=>(bnd (Xz (x.2.2.1.1,x.2.2.1.2)) (fun z2=>(some (x.1,
 ((z1.1,z1.2),((z2.1,z2.2),(x.2.2.2.1,x.2.2.2.2)))))))))
def Ydc (x:D9):J5->Option tqE:=fun (z1:J5)=>(cnd (iLt z1.2 (Ae x.1)) (bnd (idx x.1 z1.2) (fun z2=>(bnd (Pj (z2.1,
 ((z2.2.1.1,z2.2.1.2),((z2.2.2.1.1,z2.2.2.1.2),(z2.2.2.2.1,z2.2.2.2.2))))) (fun z3=>(chk (A6 (z1.1.length+1) 96) (some (.inl ((Al z1.1 [(z3.1,((z3.2.1.1,
 z3.2.1.2),((z3.2.2.1.1,z3.2.2.1.2),(z3.2.2.2.1,z3.2.2.2.2))))]),(Aj .i64 z1.2 1))))))))) (some (.inr (.inl z1.1))))
def Uh (x:D9):Ybh:=(al 2 (chk (A6 (0+x.2.2.length) 24) (Ao (Ar (Ydc x) ([],0)) (fun (z1:Ea)=>(some (z1,(x.2.1,(Al []
 x.2.2))))))))
def Zin (x:tqT):tqN:=(bnd (Ud x.1) (fun z1=>(bnd (Uh x.2.1) (fun z2=>(some (z1,(z2,x.2.2)))))))
def Br (x:Iw):Cb:=(cnd (iGe x.1 x.2.1) (some (iLe x.1 x.2.2)) (some false))
def Zde (x:Dg):(Int)->Option O2:=fun (z1:Int)=>(cnd (iLt z1 (Ae x.1)) (bnd (idx x.1 z1) (fun z2=>(cnd (iGt (Ae z2) 120)
 (some (.inr (.inr false))) (some (.inl (Aj .i64 z1 1)))))) (some (.inr (.inl ()))))
def Zdf (x:Dg):(Int)->Option O2:=fun (z2:Int)=>(cnd (iLt z2 (Ae x.2.1)) (bnd (idx x.2.1 z2) (fun z3=>(bnd (Br (z3.1,(0,
 (A1 .i64 (Ae x.1) 1)))) (fun z4=>(cnd (Ah z4) (some (.inr (.inr false))) (bnd (idx x.2.1 z2) (fun z5=>(cnd (iGt (Ae z5.2) 120) (some (.inr (.inr
 false))) (some (.inl (Aj .i64 z2 1))))))))))) (some (.inr (.inl ()))))
def T7 (x:Dg):Cb:=(Ao (Ar (Zde x) 0) (fun (z1:Unit)=>(Ao (Ar (Zdf x) 0) (fun (z2:Unit)=>(bnd (Br ((Ae
 x.1),(1,64))) (fun z3=>(cnd z3 (cnd (iLe (Ae x.2.1) 40) (bnd (Br (x.2.2.1,((-1),1000))) (fun z4=>(some z4))) (some false)) (some false))))))))
def Yb (x:(List UInt8)):(Int)->Option O2:=fun (z1:Int)=>(cnd (iLt z1 (Ae x)) (bnd (idx x z1) (fun z2=>(bnd (Br ((Ak .i64
 (y2i z2)),(97,122))) (fun z3=>(cnd (Ah z3) (bnd (idx x z1) (fun z4=>(bnd (Br ((Ak .i64 (y2i z4)),(48,57))) (fun z5=>(cnd (Ah
 z5) (some (.inr (.inr false))) (some (.inl (Aj .i64 z1 1)))))))) (some (.inl (Aj .i64 z1 1)))))))) (some (.inr (.inl ()))))
def T9 (x:(List UInt8)):Cb:=(Ao (Ar (Yb x) 0) (fun (z1:Unit)=>(bnd (Br ((Ae x),(1,6))) (fun z2=>(some z2)))))
def Dh (x:Hj):Cb:=(some (iEq (Aw .i64 x.2.2.2.1 1) 1))
def Pk (x:Eb):Cb:=(cnd (iEq x.1 0) (some (iEq (Ae x.2) 0)) (some false))
def C0 (x:Hj):Cb:=(some (iEq (Aw .i64 x.2.2.2.1 2) 2))
def Xy (x:Int):Cb:=(bnd (Br (x,(0,5))) (fun z1=>(some z1)))
def Nc (x:Eb):Cb:=(bnd (Xy x.1) (fun z1=>(cnd z1 (some (iLe (Ae x.2) 20)) (some false))))
def Zct (x:UInt8):(Option Int):=(cnd (iLt (y2i x) (y2i (u8 128))) (some 1) (bnd (Br ((Ak .i64 (y2i x)),(194,223))) (fun z1=>(cnd z1
 (some 2) (bnd (Br ((Ak .i64 (y2i x)),(224,239))) (fun z2=>(cnd z2 (some 3) (bnd (Br ((Ak .i64 (y2i x)),(240,244))) (fun z3=>(cnd z3
 (some 4) (some 0)))))))))))
def Ub (x:Int):Cb:=(bnd (Br (x,(0,1114111))) (fun z1=>(cnd z1 (bnd (Br (x,(55296,57343))) (fun z2=>(some (Ah
 z2)))) (some false))))
def Ua (x:Dd):Ff:=(chk (A6 (0+x.1.length) 1) (bnd (Ub x.2) (fun z1=>(cnd (Ah z1) (some (Al [] x.1)) (cnd (iLe x.2 127)
 (chk (A6 ((Al [] x.1).length+1) 1) (some (Al (Al [] x.1) [(u8 (Ak .u8 x.2))]))) (cnd (iLe x.2 2047) (chk (A6 ((Al [] x.1).length+2) 1) (some (Al (Al []
 x.1) [(u8 (Ak .u8 (iOr .i64 192 (B2 .i64 x.2 6)))),(u8 (Ak .u8 (iOr .i64 128 (Aw .i64 x.2 63))))]))) (cnd (iLe x.2 65535) (chk (A6 ((Al [] x.1).length+3) 1)
 (some (Al (Al [] x.1) [(u8 (Ak .u8 (iOr .i64 224 (B2 .i64 x.2 12)))),(u8 (Ak .u8 (iOr .i64 128 (Aw .i64 (B2 .i64 x.2 6) 63)))),(u8 (Ak .u8 (iOr .i64 128
 (Aw .i64 x.2 63))))]))) (chk (A6 ((Al [] x.1).length+4) 1) (some (Al (Al [] x.1) [(u8 (Ak .u8 (iOr .i64 240 (B2 .i64 x.2 18)))),(u8 (Ak .u8 (iOr .i64 128
 (Aw .i64 (B2 .i64 x.2 12) 63)))),(u8 (Ak .u8 (iOr .i64 128 (Aw .i64 (B2 .i64 x.2 6) 63)))),(u8 (Ak .u8 (iOr .i64 128 (Aw .i64 x.2 63))))]))))))))))
def Nm (x:Dd) (z3:Int):(Int×Int)->Option ((Int×Int) ⊕ (Int ⊕ Zp7)):=fun (z6:(Int×Int))=>(cnd (iLt z6.2 z3) (bnd (idx x.1 (Aj .i64
 x.2 z6.2)) (fun z7=>(cnd (iNe (y2i (u8 (Aw .u8 (y2i z7) (y2i (u8 192))))) (y2i (u8 128))) (some (.inr (.inr (0,(0,false))))) (bnd (idx x.1 (Aj .i64 x.2 z6.2))
 (fun z8=>(some (.inl ((iOr .i64 (B1 .i64 z6.1 6) (Ak .i64 (y2i (u8 (Aw .u8 (y2i z8) (y2i (u8 63))))))),(Aj .i64 z6.2 1))))))))) (some (.inr (.inl z6.1))))
def Zcm (x:Dd):Iv:=(bnd (Br (x.2,(0,(A1 .i64 (Ae x.1) 1)))) (fun z1=>(cnd (Ah z1) (some (0,(0,false))) (bnd (idx x.1 x.2)
 (fun z2=>(bnd (Zct z2) (fun z3=>(cnd (iEq z3 0) (some (0,(0,false))) (cnd (iGt z3 (A1 .i64 (Ae x.1) x.2)) (some (0,(0,false))) (bnd (idx x.1
 x.2) (fun z4=>(Ao (cnd (iGt z3 1) (chk (iLe 0 (Ak .u64 z3)) (some (.inl (Aw .i64 (Ak .i64 (y2i z4)) (B2 .i64 127 (Ak .u64 z3)))))) (some (.inl (Ak
 .i64 (y2i z4))))) (fun (z5:Int)=>(Ao (Ar (Nm x z3) (z5,1)) (fun (z6:Int)=>(bnd (Ub z6) (fun z7=>(cnd (Ah z7) (some (0,(0,false)))
 (bnd (Ua ([],z6)) (fun z8=>(chk (Cp x.2 (Aj .i64 x.2 z3) (Ae x.1)) (cnd (Ah (sEq z8 (A9 ((nOf (Aj .i64 x.2 z3))-(nOf x.2)) (Dk
 (nOf x.2) x.1)))) (some (0,(0,false))) (some (z6,((Aj .i64 x.2 z3),true)))))))))))))))))))))))))
def Zcq (x:(Int×Int)):Zh2:=(cnd (iEq x.1 164) (bnd (Br (x.2,(161,243))) (fun z1=>(cnd z1 (some ((A1 .i64 (Aj .i64 12353 x.2)
 161),true)) (cnd (iEq x.1 165) (bnd (Br (x.2,(161,246))) (fun z2=>(cnd z2 (some ((A1 .i64 (Aj .i64 12449 x.2) 161),true)) (some (0,false))))) (some (0,
 false)))))) (cnd (iEq x.1 165) (bnd (Br (x.2,(161,246))) (fun z1=>(cnd z1 (some ((A1 .i64 (Aj .i64 12449 x.2) 161),true)) (some (0,false))))) (some (0,
 false))))
def Zcl (x:Dd):Iv:=(bnd (Br (x.2,(0,(A1 .i64 (Ae x.1) 1)))) (fun z1=>(cnd (Ah z1) (some (0,(0,false))) (bnd (idx x.1 x.2)
 (fun z2=>(cnd (iLt (y2i z2) (y2i (u8 128))) (bnd (idx x.1 x.2) (fun z3=>(some ((Ak .i64 (y2i z3)),((Aj .i64 x.2 1),true))))) (cnd (iGe (Aj .i64
 x.2 1) (Ae x.1)) (some (0,(0,false))) (bnd (idx x.1 x.2) (fun z3=>(bnd (idx x.1 (Aj .i64 x.2 1)) (fun z4=>(bnd (Zcq ((Ak .i64 (y2i z3)),
 (Ak .i64 (y2i z4)))) (fun z5=>(cnd (Ah z5.2) (some (0,(0,false))) (some (z5.1,((Aj .i64 x.2 2),true)))))))))))))))))
def Zqt (x:Int):(Option Int):=(cnd (iEq x 164) (some 8364) (cnd (iEq x 166) (some 352) (cnd (iEq x 168) (some 353) (cnd (iEq x 180) (some 381) (cnd (iEq
 x 184) (some 382) (cnd (iEq x 188) (some 338) (cnd (iEq x 189) (some 339) (cnd (iEq x 190) (some 376) (some x)))))))))
def Zqs (x:Int):(Option Int):=(cnd (iGe x 224) (bnd (idx [1102,1072,1073,1094,1076,1077,1092,1075,1093,1080,1081,1082,1083,1084,1085,1086,
 1087,1103,1088,1089,1090,1091,1078,1074,1100,1099,1079,1096,1101,1097,1095,1098] (A1 .i64 x 224)) (fun z1=>(some (A1 .i64 z1 32)))) (cnd (iGe x 192)
 (bnd (idx [1102,1072,1073,1094,1076,1077,1092,1075,1093,1080,1081,1082,1083,1084,1085,1086,1087,1103,1088,1089,1090,1091,1078,1074,1100,1099,1079,1096,
 1101,1097,1095,1098] (A1 .i64 x 192)) (fun z1=>(some z1))) (cnd (iEq x 163) (some 1105) (cnd (iEq x 179) (some 1025) (some (-1))))))
def Zqu (x:Int):(Option Int):=(cnd (iGe x 160) (some x) (bnd (idx [8364,(-1),8218,402,8222,8230,8224,8225,710,8240,352,8249,338,(-1),381,
 (-1),(-1),8216,8217,8220,8221,8226,8211,8212,732,8482,353,8250,339,(-1),382,376] (A1 .i64 x 128)) (fun z1=>(some z1))))
def Rh (x:(Int×Int)):Zh2:=(bnd (Br (x.1,(1,4))) (fun z1=>(cnd (Ah z1) (some (0,false)) (bnd (Br (x.2,(0,255))) (fun
 z2=>(cnd (Ah z2) (some (0,false)) (Ao (cnd (iGe x.2 128) (cnd (iEq x.1 2) (bnd (Zqt x.2) (fun z3=>(some (.inl z3)))) (cnd (iEq x.1 3) (bnd
 (Zqs x.2) (fun z3=>(some (.inl z3)))) (cnd (iEq x.1 4) (bnd (Zqu x.2) (fun z3=>(some (.inl z3)))) (some (.inl x.2))))) (some (.inl x.2))) (fun (z3
 : Int)=>(cnd (iLt z3 0) (some (0,false)) (some (z3,true)))))))))))
def Zcu (x:(Int×Dd)):Iv:=(cnd (iEq x.1 0) (bnd (Zcm (x.2.1,x.2.2)) (fun z1=>(some (z1.1,(z1.2.1,z1.2.2))))) (cnd (iEq x.1 5)
 (bnd (Zcl (x.2.1,x.2.2)) (fun z1=>(some (z1.1,(z1.2.1,z1.2.2))))) (bnd (idx x.2.1 x.2.2) (fun z1=>(bnd (Rh (x.1,(Ak .i64 (y2i
 z1)))) (fun z2=>(some (z2.1,((Aj .i64 x.2.2 1),z2.2)))))))))
def Zi4 (x:Eb):Dd->Option Ybs:=fun (z2:Dd)=>(cnd (iLt z2.2 (Ae x.2)) (bnd (Zcu (x.1,(x.2,z2.2))) (fun z3=>(cnd (Ah
 z3.2.2) (some (.inr (.inr ([],false)))) (bnd (Ua (z2.1,z3.1)) (fun z4=>(some (.inl (z4,z3.2.1)))))))) (some (.inr (.inl z2.1))))
def Zck (x:Eb):Zhz:=(bnd (Xy x.1) (fun z1=>(cnd (Ah z1) (some ([],false)) (Ao (Ar (Zi4 x) ([],0)) (fun (z2:(List
 UInt8))=>(some (z2,true)))))))
def Iz (x:Eb):Zhz:=(bnd (Nc (x.1,x.2)) (fun z1=>(cnd (Ah z1) (some ([],false)) (bnd (Zck (x.1,x.2)) (fun z2
 => (some (z2.1,z2.2)))))))
def Bx (x:Za4):Cb:=(bnd (Iz (x.1.1,x.1.2)) (fun z1=>(bnd (Iz (x.2.1,x.2.2)) (fun z2=>(cnd z1.2 (cnd
 z2.2 (some (sEq z1.1 z2.1)) (some false)) (some false))))))
def Nf (x:Hj):Cb:=(bnd (T9 x.1) (fun z1=>(cnd (Ah z1) (some false) (bnd (Br (x.2.2.2.1,(1,3))) (fun z2=>(cnd
 (Ah z2) (some false) (bnd (Dh (x.1,((x.2.1.1,x.2.1.2),((x.2.2.1.1,x.2.2.1.2),(x.2.2.2.1,x.2.2.2.2))))) (fun z3=>(cnd (Ah z3) (bnd (Pk
 (x.2.1.1,x.2.1.2)) (fun z4=>(cnd (Ah z4) (some false) (bnd (C0 (x.1,((x.2.1.1,x.2.1.2),((x.2.2.1.1,x.2.2.1.2),(x.2.2.2.1,x.2.2.2.2))))) (fun z5=>(cnd (Ah z5) (bnd (Pk (x.2.2.1.1,x.2.2.1.2)) (fun z6=>(cnd (Ah z6) (some false) (bnd (Iz (x.2.1.1,x.2.1.2)) (fun z7=>(bnd
 (Iz (x.2.2.1.1,x.2.2.1.2)) (fun z8=>(bnd (Dh (x.1,((x.2.1.1,x.2.1.2),((x.2.2.1.1,x.2.2.1.2),(x.2.2.2.1,x.2.2.2.2))))) (fun z9=>(cnd
 z9 (bnd (Br (x.2.1.1,(1,5))) (fun z10=>(cnd (Ah z10) (some false) (bnd (Nc (x.2.1.1,x.2.1.2)) (fun z11=>(cnd (Ah z11) (some false) (bnd
 (C0 (x.1,((x.2.1.1,x.2.1.2),((x.2.2.1.1,x.2.2.1.2),(x.2.2.2.1,x.2.2.2.2))))) (fun z12=>(cnd z12 (cnd (iNe x.2.2.1.1 0) (some false) (cnd (Ah z8.2) (some
 false) (bnd (Dh (x.1,((x.2.1.1,x.2.1.2),((x.2.2.1.1,x.2.2.1.2),(x.2.2.2.1,x.2.2.2.2))))) (fun z13=>(cnd z13 (cnd (Ah z7.2) (cnd (Ah x.2.2.2.2) (some
 false) (bnd (C0 (x.1,((x.2.1.1,x.2.1.2),((x.2.2.1.1,x.2.2.1.2),(x.2.2.2.1,x.2.2.2.2))))) (fun z14=>(cnd z14 (some false) (cnd (iNe x.2.2.2.1 3) (some
 true) (bnd (Bx ((x.2.1.1,x.2.1.2),(x.2.2.1.1,x.2.2.1.2))) (fun z15=>(some z15)))))))) (cnd (iNe x.2.2.2.1 3) (some true) (bnd (Bx ((x.2.1.1,
 x.2.1.2),(x.2.2.1.1,x.2.2.1.2))) (fun z14=>(some z14))))) (cnd (iNe x.2.2.2.1 3) (some true) (bnd (Bx ((x.2.1.1,x.2.1.2),(x.2.2.1.1,x.2.2.1.2))) (fun
 z14=>(some z14))))))))) (bnd (Dh (x.1,((x.2.1.1,x.2.1.2),((x.2.2.1.1,x.2.2.1.2),(x.2.2.2.1,x.2.2.2.2))))) (fun z13=>(cnd z13 (cnd (Ah z7.2)
 (cnd (Ah x.2.2.2.2) (some false) (bnd (C0 (x.1,((x.2.1.1,x.2.1.2),((x.2.2.1.1,x.2.2.1.2),(x.2.2.2.1,x.2.2.2.2))))) (fun z14=>(cnd z14 (some false) (cnd
 (iNe x.2.2.2.1 3) (some true) (bnd (Bx ((x.2.1.1,x.2.1.2),(x.2.2.1.1,x.2.2.1.2))) (fun z15=>(some z15)))))))) (cnd (iNe x.2.2.2.1 3) (some true) (bnd
 (Bx ((x.2.1.1,x.2.1.2),(x.2.2.1.1,x.2.2.1.2))) (fun z14=>(some z14))))) (cnd (iNe x.2.2.2.1 3) (some true) (bnd (Bx ((x.2.1.1,x.2.1.2),
 (x.2.2.1.1,x.2.2.1.2))) (fun z14=>(some z14)))))))))))))))) (bnd (C0 (x.1,((x.2.1.1,x.2.1.2),((x.2.2.1.1,x.2.2.1.2),(x.2.2.2.1,x.2.2.2.2))))) (fun z10=>(cnd z10 (cnd (iNe x.2.2.1.1 0) (some false) (cnd (Ah z8.2) (some false) (bnd (Dh (x.1,((x.2.1.1,x.2.1.2),((x.2.2.1.1,x.2.2.1.2),(x.2.2.2.1,x.2.2.2.2)))))
 (fun z11=>(cnd z11 (cnd (Ah z7.2) (cnd (Ah x.2.2.2.2) (some false) (bnd (C0 (x.1,((x.2.1.1,x.2.1.2),((x.2.2.1.1,x.2.2.1.2),(x.2.2.2.1,x.2.2.2.2)))))
 (fun z12=>(cnd z12 (some false) (cnd (iNe x.2.2.2.1 3) (some true) (bnd (Bx ((x.2.1.1,x.2.1.2),(x.2.2.1.1,x.2.2.1.2))) (fun z13=>(some
 z13)))))))) (cnd (iNe x.2.2.2.1 3) (some true) (bnd (Bx ((x.2.1.1,x.2.1.2),(x.2.2.1.1,x.2.2.1.2))) (fun z12=>(some z12))))) (cnd (iNe x.2.2.2.1 3) (some
 true) (bnd (Bx ((x.2.1.1,x.2.1.2),(x.2.2.1.1,x.2.2.1.2))) (fun z12=>(some z12))))))))) (bnd (Dh (x.1,((x.2.1.1,x.2.1.2),((x.2.2.1.1,x.2.2.1.2),
 (x.2.2.2.1,x.2.2.2.2))))) (fun z11=>(cnd z11 (cnd (Ah z7.2) (cnd (Ah x.2.2.2.2) (some false) (bnd (C0 (x.1,((x.2.1.1,x.2.1.2),((x.2.2.1.1,x.2.2.1.2),
 (x.2.2.2.1,x.2.2.2.2))))) (fun z12=>(cnd z12 (some false) (cnd (iNe x.2.2.2.1 3) (some true) (bnd (Bx ((x.2.1.1,x.2.1.2),(x.2.2.1.1,x.2.2.1.2))) (fun
 z13=>(some z13)))))))) (cnd (iNe x.2.2.2.1 3) (some true) (bnd (Bx ((x.2.1.1,x.2.1.2),(x.2.2.1.1,x.2.2.1.2))) (fun z12=>(some z12))))) (cnd
 (iNe x.2.2.2.1 3) (some true) (bnd (Bx ((x.2.1.1,x.2.1.2),(x.2.2.1.1,x.2.2.1.2))) (fun z12=>(some z12)))))))))))))))))))) (bnd (Iz (x.2.1.1,
 x.2.1.2)) (fun z6=>(bnd (Iz (x.2.2.1.1,x.2.2.1.2)) (fun z7=>(bnd (Dh (x.1,((x.2.1.1,x.2.1.2),((x.2.2.1.1,x.2.2.1.2),(x.2.2.2.1,
 x.2.2.2.2))))) (fun z8=>(cnd z8 (bnd (Br (x.2.1.1,(1,5))) (fun z9=>(cnd (Ah z9) (some false) (bnd (Nc (x.2.1.1,x.2.1.2)) (fun z10=>(cnd (Ah z10) (some false) (bnd (C0 (x.1,((x.2.1.1,x.2.1.2),((x.2.2.1.1,x.2.2.1.2),(x.2.2.2.1,x.2.2.2.2))))) (fun z11=>(cnd z11 (cnd (iNe
 x.2.2.1.1 0) (some false) (cnd (Ah z7.2) (some false) (bnd (Dh (x.1,((x.2.1.1,x.2.1.2),((x.2.2.1.1,x.2.2.1.2),(x.2.2.2.1,x.2.2.2.2))))) (fun z12=>(cnd
 z12 (cnd (Ah z6.2) (cnd (Ah x.2.2.2.2) (some false) (bnd (C0 (x.1,((x.2.1.1,x.2.1.2),((x.2.2.1.1,x.2.2.1.2),(x.2.2.2.1,x.2.2.2.2))))) (fun z13=>(cnd
 z13 (some false) (cnd (iNe x.2.2.2.1 3) (some true) (bnd (Bx ((x.2.1.1,x.2.1.2),(x.2.2.1.1,x.2.2.1.2))) (fun z14=>(some z14)))))))) (cnd (iNe x.2.2.2.1 3)
 (some true) (bnd (Bx ((x.2.1.1,x.2.1.2),(x.2.2.1.1,x.2.2.1.2))) (fun z13=>(some z13))))) (cnd (iNe x.2.2.2.1 3) (some true) (bnd (Bx ((x.2.1.1,
 x.2.1.2),(x.2.2.1.1,x.2.2.1.2))) (fun z13=>(some z13))))))))) (bnd (Dh (x.1,((x.2.1.1,x.2.1.2),((x.2.2.1.1,x.2.2.1.2),(x.2.2.2.1,x.2.2.2.2))))) (fun
 z12=>(cnd z12 (cnd (Ah z6.2) (cnd (Ah x.2.2.2.2) (some false) (bnd (C0 (x.1,((x.2.1.1,x.2.1.2),((x.2.2.1.1,x.2.2.1.2),(x.2.2.2.1,x.2.2.2.2))))) (fun
 z13=>(cnd z13 (some false) (cnd (iNe x.2.2.2.1 3) (some true) (bnd (Bx ((x.2.1.1,x.2.1.2),(x.2.2.1.1,x.2.2.1.2))) (fun z14=>(some z14))))))))
 (cnd (iNe x.2.2.2.1 3) (some true) (bnd (Bx ((x.2.1.1,x.2.1.2),(x.2.2.1.1,x.2.2.1.2))) (fun z13=>(some z13))))) (cnd (iNe x.2.2.2.1 3) (some true) (bnd
 (Bx ((x.2.1.1,x.2.1.2),(x.2.2.1.1,x.2.2.1.2))) (fun z13=>(some z13)))))))))))))))) (bnd (C0 (x.1,((x.2.1.1,x.2.1.2),((x.2.2.1.1,x.2.2.1.2),
 (x.2.2.2.1,x.2.2.2.2))))) (fun z9=>(cnd z9 (cnd (iNe x.2.2.1.1 0) (some false) (cnd (Ah z7.2) (some false) (bnd (Dh (x.1,((x.2.1.1,x.2.1.2),((x.2.2.1.1,
 x.2.2.1.2),(x.2.2.2.1,x.2.2.2.2))))) (fun z10=>(cnd z10 (cnd (Ah z6.2) (cnd (Ah x.2.2.2.2) (some false) (bnd (C0 (x.1,((x.2.1.1,x.2.1.2),((x.2.2.1.1,
 x.2.2.1.2),(x.2.2.2.1,x.2.2.2.2))))) (fun z11=>(cnd z11 (some false) (cnd (iNe x.2.2.2.1 3) (some true) (bnd (Bx ((x.2.1.1,x.2.1.2),(x.2.2.1.1,
 x.2.2.1.2))) (fun z12=>(some z12)))))))) (cnd (iNe x.2.2.2.1 3) (some true) (bnd (Bx ((x.2.1.1,x.2.1.2),(x.2.2.1.1,x.2.2.1.2))) (fun z11=>(some
 z11))))) (cnd (iNe x.2.2.2.1 3) (some true) (bnd (Bx ((x.2.1.1,x.2.1.2),(x.2.2.1.1,x.2.2.1.2))) (fun z11=>(some z11))))))))) (bnd (Dh (x.1,
 ((x.2.1.1,x.2.1.2),((x.2.2.1.1,x.2.2.1.2),(x.2.2.2.1,x.2.2.2.2))))) (fun z10=>(cnd z10 (cnd (Ah z6.2) (cnd (Ah x.2.2.2.2) (some false) (bnd (C0 (x.1,
 ((x.2.1.1,x.2.1.2),((x.2.2.1.1,x.2.2.1.2),(x.2.2.2.1,x.2.2.2.2))))) (fun z11=>(cnd z11 (some false) (cnd (iNe x.2.2.2.1 3) (some true) (bnd (Bx
 ((x.2.1.1,x.2.1.2),(x.2.2.1.1,x.2.2.1.2))) (fun z12=>(some z12)))))))) (cnd (iNe x.2.2.2.1 3) (some true) (bnd (Bx ((x.2.1.1,x.2.1.2),(x.2.2.1.1,
 x.2.2.1.2))) (fun z11=>(some z11))))) (cnd (iNe x.2.2.2.1 3) (some true) (bnd (Bx ((x.2.1.1,x.2.1.2),(x.2.2.1.1,x.2.2.1.2))) (fun z11=>(some
 z11))))))))))))))))))))))) (bnd (C0 (x.1,((x.2.1.1,x.2.1.2),((x.2.2.1.1,x.2.2.1.2),(x.2.2.2.1,x.2.2.2.2))))) (fun z4=>(cnd (Ah z4) (bnd (Pk
 (x.2.2.1.1,x.2.2.1.2)) (fun z5=>(cnd (Ah z5) (some false) (bnd (Iz (x.2.1.1,x.2.1.2)) (fun z6=>(bnd (Iz (x.2.2.1.1,x.2.2.1.2)) (fun
 z7=>(bnd (Dh (x.1,((x.2.1.1,x.2.1.2),((x.2.2.1.1,x.2.2.1.2),(x.2.2.2.1,x.2.2.2.2))))) (fun z8=>(cnd z8 (bnd (Br (x.2.1.1,(1,5))) (fun
 z9=>(cnd (Ah z9) (some false) (bnd (Nc (x.2.1.1,x.2.1.2)) (fun z10=>(cnd (Ah z10) (some false) (bnd (C0 (x.1,((x.2.1.1,x.2.1.2),
 ((x.2.2.1.1,x.2.2.1.2),(x.2.2.2.1,x.2.2.2.2))))) (fun z11=>(cnd z11 (cnd (iNe x.2.2.1.1 0) (some false) (cnd (Ah z7.2) (some false) (bnd (Dh (x.1,
 ((x.2.1.1,x.2.1.2),((x.2.2.1.1,x.2.2.1.2),(x.2.2.2.1,x.2.2.2.2))))) (fun z12=>(cnd z12 (cnd (Ah z6.2) (cnd (Ah x.2.2.2.2) (some false) (bnd (C0 (x.1,
 ((x.2.1.1,x.2.1.2),((x.2.2.1.1,x.2.2.1.2),(x.2.2.2.1,x.2.2.2.2))))) (fun z13=>(cnd z13 (some false) (cnd (iNe x.2.2.2.1 3) (some true) (bnd (Bx
 ((x.2.1.1,x.2.1.2),(x.2.2.1.1,x.2.2.1.2))) (fun z14=>(some z14)))))))) (cnd (iNe x.2.2.2.1 3) (some true) (bnd (Bx ((x.2.1.1,x.2.1.2),(x.2.2.1.1,
 x.2.2.1.2))) (fun z13=>(some z13))))) (cnd (iNe x.2.2.2.1 3) (some true) (bnd (Bx ((x.2.1.1,x.2.1.2),(x.2.2.1.1,x.2.2.1.2))) (fun z13=>(some
 z13))))))))) (bnd (Dh (x.1,((x.2.1.1,x.2.1.2),((x.2.2.1.1,x.2.2.1.2),(x.2.2.2.1,x.2.2.2.2))))) (fun z12=>(cnd z12 (cnd (Ah z6.2) (cnd (Ah x.2.2.2.2)
 (some false) (bnd (C0 (x.1,((x.2.1.1,x.2.1.2),((x.2.2.1.1,x.2.2.1.2),(x.2.2.2.1,x.2.2.2.2))))) (fun z13=>(cnd z13 (some false) (cnd (iNe x.2.2.2.1 3)
 (some true) (bnd (Bx ((x.2.1.1,x.2.1.2),(x.2.2.1.1,x.2.2.1.2))) (fun z14=>(some z14)))))))) (cnd (iNe x.2.2.2.1 3) (some true) (bnd (Bx
 ((x.2.1.1,x.2.1.2),(x.2.2.1.1,x.2.2.1.2))) (fun z13=>(some z13))))) (cnd (iNe x.2.2.2.1 3) (some true) (bnd (Bx ((x.2.1.1,x.2.1.2),(x.2.2.1.1,
 x.2.2.1.2))) (fun z13=>(some z13)))))))))))))))) (bnd (C0 (x.1,((x.2.1.1,x.2.1.2),((x.2.2.1.1,x.2.2.1.2),(x.2.2.2.1,x.2.2.2.2))))) (fun z9 =>
 (cnd z9 (cnd (iNe x.2.2.1.1 0) (some false) (cnd (Ah z7.2) (some false) (bnd (Dh (x.1,((x.2.1.1,x.2.1.2),((x.2.2.1.1,x.2.2.1.2),(x.2.2.2.1,x.2.2.2.2))))) (fun z10=>(cnd z10 (cnd (Ah z6.2) (cnd (Ah x.2.2.2.2) (some false) (bnd (C0 (x.1,((x.2.1.1,x.2.1.2),((x.2.2.1.1,x.2.2.1.2),(x.2.2.2.1,x.2.2.2.2))))) (fun z11=>(cnd z11 (some false) (cnd (iNe x.2.2.2.1 3) (some true) (bnd (Bx ((x.2.1.1,x.2.1.2),(x.2.2.1.1,x.2.2.1.2))) (fun z12=>(some z12)))))))) (cnd
 (iNe x.2.2.2.1 3) (some true) (bnd (Bx ((x.2.1.1,x.2.1.2),(x.2.2.1.1,x.2.2.1.2))) (fun z11=>(some z11))))) (cnd (iNe x.2.2.2.1 3) (some true) (bnd
 (Bx ((x.2.1.1,x.2.1.2),(x.2.2.1.1,x.2.2.1.2))) (fun z11=>(some z11))))))))) (bnd (Dh (x.1,((x.2.1.1,x.2.1.2),((x.2.2.1.1,x.2.2.1.2),
 (x.2.2.2.1,x.2.2.2.2))))) (fun z10=>(cnd z10 (cnd (Ah z6.2) (cnd (Ah x.2.2.2.2) (some false) (bnd (C0 (x.1,((x.2.1.1,x.2.1.2),((x.2.2.1.1,x.2.2.1.2),
 (x.2.2.2.1,x.2.2.2.2))))) (fun z11=>(cnd z11 (some false) (cnd (iNe x.2.2.2.1 3) (some true) (bnd (Bx ((x.2.1.1,x.2.1.2),(x.2.2.1.1,x.2.2.1.2))) (fun
 z12=>(some z12)))))))) (cnd (iNe x.2.2.2.1 3) (some true) (bnd (Bx ((x.2.1.1,x.2.1.2),(x.2.2.1.1,x.2.2.1.2))) (fun z11=>(some z11))))) (cnd
 (iNe x.2.2.2.1 3) (some true) (bnd (Bx ((x.2.1.1,x.2.1.2),(x.2.2.1.1,x.2.2.1.2))) (fun z11=>(some z11)))))))))))))))))))) (bnd (Iz (x.2.1.1,
 x.2.1.2)) (fun z5=>(bnd (Iz (x.2.2.1.1,x.2.2.1.2)) (fun z6=>(bnd (Dh (x.1,((x.2.1.1,x.2.1.2),((x.2.2.1.1,x.2.2.1.2),(x.2.2.2.1,
 x.2.2.2.2))))) (fun z7=>(cnd z7 (bnd (Br (x.2.1.1,(1,5))) (fun z8=>(cnd (Ah z8) (some false) (bnd (Nc (x.2.1.1,x.2.1.2)) (fun z9
 => (cnd (Ah z9) (some false) (bnd (C0 (x.1,((x.2.1.1,x.2.1.2),((x.2.2.1.1,x.2.2.1.2),(x.2.2.2.1,x.2.2.2.2))))) (fun z10=>(cnd z10 (cnd (iNe x.2.2.1.1 0)
 (some false) (cnd (Ah z6.2) (some false) (bnd (Dh (x.1,((x.2.1.1,x.2.1.2),((x.2.2.1.1,x.2.2.1.2),(x.2.2.2.1,x.2.2.2.2))))) (fun z11=>(cnd z11 (cnd (Ah
 z5.2) (cnd (Ah x.2.2.2.2) (some false) (bnd (C0 (x.1,((x.2.1.1,x.2.1.2),((x.2.2.1.1,x.2.2.1.2),(x.2.2.2.1,x.2.2.2.2))))) (fun z12=>(cnd z12 (some false)
 (cnd (iNe x.2.2.2.1 3) (some true) (bnd (Bx ((x.2.1.1,x.2.1.2),(x.2.2.1.1,x.2.2.1.2))) (fun z13=>(some z13)))))))) (cnd (iNe x.2.2.2.1 3) (some true) (bnd
 (Bx ((x.2.1.1,x.2.1.2),(x.2.2.1.1,x.2.2.1.2))) (fun z12=>(some z12))))) (cnd (iNe x.2.2.2.1 3) (some true) (bnd (Bx ((x.2.1.1,x.2.1.2),
 (x.2.2.1.1,x.2.2.1.2))) (fun z12=>(some z12))))))))) (bnd (Dh (x.1,((x.2.1.1,x.2.1.2),((x.2.2.1.1,x.2.2.1.2),(x.2.2.2.1,x.2.2.2.2))))) (fun z11
 => (cnd z11 (cnd (Ah z5.2) (cnd (Ah x.2.2.2.2) (some false) (bnd (C0 (x.1,((x.2.1.1,x.2.1.2),((x.2.2.1.1,x.2.2.1.2),(x.2.2.2.1,x.2.2.2.2))))) (fun z12
 => (cnd z12 (some false) (cnd (iNe x.2.2.2.1 3) (some true) (bnd (Bx ((x.2.1.1,x.2.1.2),(x.2.2.1.1,x.2.2.1.2))) (fun z13=>(some z13)))))))) (cnd (iNe
 x.2.2.2.1 3) (some true) (bnd (Bx ((x.2.1.1,x.2.1.2),(x.2.2.1.1,x.2.2.1.2))) (fun z12=>(some z12))))) (cnd (iNe x.2.2.2.1 3) (some true) (bnd
 (Bx ((x.2.1.1,x.2.1.2),(x.2.2.1.1,x.2.2.1.2))) (fun z12=>(some z12)))))))))))))))) (bnd (C0 (x.1,((x.2.1.1,x.2.1.2),((x.2.2.1.1,x.2.2.1.2),
 (x.2.2.2.1,x.2.2.2.2))))) (fun z8=>(cnd z8 (cnd (iNe x.2.2.1.1 0) (some false) (cnd (Ah z6.2) (some false) (bnd (Dh (x.1,((x.2.1.1,x.2.1.2),((x.2.2.1.1,
 x.2.2.1.2),(x.2.2.2.1,x.2.2.2.2))))) (fun z9=>(cnd z9 (cnd (Ah z5.2) (cnd (Ah x.2.2.2.2) (some false) (bnd (C0 (x.1,((x.2.1.1,x.2.1.2),((x.2.2.1.1,
 x.2.2.1.2),(x.2.2.2.1,x.2.2.2.2))))) (fun z10=>(cnd z10 (some false) (cnd (iNe x.2.2.2.1 3) (some true) (bnd (Bx ((x.2.1.1,x.2.1.2),(x.2.2.1.1,
 x.2.2.1.2))) (fun z11=>(some z11)))))))) (cnd (iNe x.2.2.2.1 3) (some true) (bnd (Bx ((x.2.1.1,x.2.1.2),(x.2.2.1.1,x.2.2.1.2))) (fun z10=>(some
 z10))))) (cnd (iNe x.2.2.2.1 3) (some true) (bnd (Bx ((x.2.1.1,x.2.1.2),(x.2.2.1.1,x.2.2.1.2))) (fun z10=>(some z10))))))))) (bnd (Dh (x.1,
 ((x.2.1.1,x.2.1.2),((x.2.2.1.1,x.2.2.1.2),(x.2.2.2.1,x.2.2.2.2))))) (fun z9=>(cnd z9 (cnd (Ah z5.2) (cnd (Ah x.2.2.2.2) (some false) (bnd (C0 (x.1,
 ((x.2.1.1,x.2.1.2),((x.2.2.1.1,x.2.2.1.2),(x.2.2.2.1,x.2.2.2.2))))) (fun z10=>(cnd z10 (some false) (cnd (iNe x.2.2.2.1 3) (some true) (bnd (Bx
 ((x.2.1.1,x.2.1.2),(x.2.2.1.1,x.2.2.1.2))) (fun z11=>(some z11)))))))) (cnd (iNe x.2.2.2.1 3) (some true) (bnd (Bx ((x.2.1.1,x.2.1.2),(x.2.2.1.1,
 x.2.2.1.2))) (fun z10=>(some z10))))) (cnd (iNe x.2.2.2.1 3) (some true) (bnd (Bx ((x.2.1.1,x.2.1.2),(x.2.2.1.1,x.2.2.1.2))) (fun z10=>(some
 z10)))))))))))))))))))))))))))))
def Ni (x:Int):Cb:=(bnd (Br (x,(0,65535))) (fun z1=>(some z1)))
def Xt (x:Iw):Cb:=(bnd (Br (x.1,(1,9))) (fun z1=>(cnd z1 (bnd (Ni x.2.1) (fun z2=>(cnd z2 (bnd (Br
 (x.2.2,(0,6))) (fun z3=>(some z3))) (some false)))) (some false))))
def Zdh (x:D9):(Int)->Option O2:=fun (z1:Int)=>(cnd (iLt z1 (Ae x.1)) (bnd (idx x.1 z1) (fun z2=>(bnd (Nf (z2.1,
 ((z2.2.1.1,z2.2.1.2),((z2.2.2.1.1,z2.2.2.1.2),(z2.2.2.2.1,z2.2.2.2.2))))) (fun z3=>(cnd (Ah z3) (some (.inr (.inr false))) (cnd (iGt z1 0) (bnd (idx x.1 (A1
 .i64 z1 1)) (fun z4=>(bnd (idx x.1 z1) (fun z5=>(cnd (Ah (sLt z4.1 z5.1)) (some (.inr (.inr false))) (some (.inl (Aj .i64 z1 1)))))))) (some (.inl (Aj
 .i64 z1 1))))))))) (some (.inr (.inl ()))))
def Zdi (x:D9):(Int)->Option O2:=fun (z2:Int)=>(cnd (iLt z2 (Ae x.2.2)) (bnd (idx x.2.2 z2) (fun z3=>(bnd (Xt (z3.1,
 (z3.2.1,z3.2.2))) (fun z4=>(cnd (Ah z4) (some (.inr (.inr false))) (cnd (iGt z2 0) (bnd (idx x.2.2 (A1 .i64 z2 1)) (fun z5=>(bnd (idx x.2.2 z2) (fun
 z6=>(cnd (iGe z5.1 z6.1) (some (.inr (.inr false))) (some (.inl (Aj .i64 z2 1)))))))) (some (.inl (Aj .i64 z2 1))))))))) (some (.inr (.inl ()))))
def Ng (x:D9):Cb:=(Ao (Ar (Zdh x) 0) (fun (z1:Unit)=>(Ao (Ar (Zdi x) 0) (fun (z2:Unit)=>(cnd (iLe (Ae x.1) 8)
 (bnd (Br (x.2.1,(0,7))) (fun z3=>(some z3))) (some false))))))
def Uc (x:tqT):Cb:=(bnd (T7 (x.1.1,(x.1.2.1,(x.1.2.2.1,x.1.2.2.2)))) (fun z1=>(cnd z1 (cnd (iEq (Ae x.1.1) 62) (cnd x.1.2.2.2
 (bnd (Ng (x.2.1.1,(x.2.1.2.1,x.2.1.2.2))) (fun z2=>(cnd z2 (bnd (Br (x.2.2.1,(1,60000))) (fun z3=>(cnd z3 (bnd (Br (x.2.2.2,(0,
 30))) (fun z4=>(some z4))) (some false)))) (some false)))) (cnd (iEq (Ae x.1.2.1) 0) (bnd (Ng (x.2.1.1,(x.2.1.2.1,x.2.1.2.2))) (fun z2=>(cnd z2
 (bnd (Br (x.2.2.1,(1,60000))) (fun z3=>(cnd z3 (bnd (Br (x.2.2.2,(0,30))) (fun z4=>(some z4))) (some false)))) (some false)))) (some
 false))) (some false)) (some false))))
def Zcs (x:Hj):Cb:=(cnd (sEq x.1 []) (bnd (Pk (x.2.1.1,x.2.1.2)) (fun z1=>(cnd z1 (bnd (Pk (x.2.2.1.1,x.2.2.1.2)) (fun
 z2=>(cnd z2 (cnd (iEq x.2.2.2.1 0) (some (Ah x.2.2.2.2)) (some false)) (some false)))) (some false)))) (some false))
def Zim (x:M1):Cb:=(cnd (iEq x.2.2.2.2.1 0) (cnd (iEq x.2.2.2.2.2.1 0) (cnd (iEq x.2.2.2.2.2.2 0) (some (iNe x.1 4)) (some false)) (some false)) (bnd
 (Br (x.2.2.2.2.1,(1,9))) (fun z1=>(cnd z1 (bnd (Ni x.2.2.2.2.2.1) (fun z2=>(cnd z2 (bnd (Br (x.2.2.2.2.2.2,(0,6))) (fun z3
 => (some z3))) (some false)))) (some false)))))
def Pf (x:M1):Cb:=(bnd (Zcs (x.2.1.1,((x.2.1.2.1.1,x.2.1.2.1.2),((x.2.1.2.2.1.1,x.2.1.2.2.1.2),(x.2.1.2.2.2.1,x.2.1.2.2.2.2))))) (fun
 z1=>(Ao (cnd (iEq x.1 1) (bnd (Nf (x.2.1.1,((x.2.1.2.1.1,x.2.1.2.1.2),((x.2.1.2.2.1.1,x.2.1.2.2.1.2),(x.2.1.2.2.2.1,x.2.1.2.2.2.2))))) (fun z2
 => (some (.inl (z2,((sEq x.2.2.1 []),(iEq x.2.2.2.1 0))))))) (cnd (iEq x.1 2) (bnd (T9 x.2.2.1) (fun z2=>(some (.inl (z1,(z2,(iEq x.2.2.2.1 0))))))) (cnd
 (iEq x.1 3) (bnd (Br (x.2.2.2.1,(0,7))) (fun z2=>(some (.inl (z1,((sEq x.2.2.1 []),z2)))))) (some (.inl (z1,((sEq x.2.2.1 []),(iEq x.2.2.2.1 0)))))))) (fun
 (z2:(Bool×(Bool×Bool)))=>(bnd (Br (x.1,(1,4))) (fun z3=>(cnd z3 (cnd z2.1 (cnd z2.2.1 (cnd z2.2.2 (bnd (Zim (x.1,((x.2.1.1,((x.2.1.2.1.1,
 x.2.1.2.1.2),((x.2.1.2.2.1.1,x.2.1.2.2.1.2),(x.2.1.2.2.2.1,x.2.1.2.2.2.2)))),(x.2.2.1,(x.2.2.2.1,(x.2.2.2.2.1,(x.2.2.2.2.2.1,x.2.2.2.2.2.2))))))) (fun z4 =>
 (some z4))) (some false)) (some false)) (some false)) (some false))))))))
def Zdl (x:tqY):tqV->Option (tqV ⊕ tqZ):=fun (z1:tqV)=>(cnd (iLt z1.2.2.2 (Ae z1.1)) (Ao (Ao (cnd (Ah z1.2.2.1) (bnd (idx z1.1 z1.2.2.2)
 (fun z2=>(cnd (Ah (sLt z2.1 x.2.1)) (bnd (Pj x.2) (fun z3=>(chk (A6 (z1.2.1.length+1) 96) (some (.inl ((Al z1.2.1 [z3]),true)))))) (some
 (.inl (z1.2.1,z1.2.2.1)))))) (some (.inl (z1.2.1,z1.2.2.1)))) (fun (z2:Wq)=>(bnd (idx z1.1 z1.2.2.2) (fun z3=>(cnd (Ah (sEq z3.1 x.2.1)) (bnd (idx z1.1
 z1.2.2.2) (fun z4=>(chk (G7 z4.2.1.2) (chk (G7 z4.2.2.1.2) (bnd (idx z1.1 (Int.ofNat (nOf z1.2.2.2))) (fun z5=>(bnd (idx (Aq z1.1 (nOf z1.2.2.2)
 (z5.1,((z5.2.1.1,none),z5.2.2))) (Int.ofNat (nOf z1.2.2.2))) (fun z6=>(chk (A6 (z2.1.length+1) 96) (some (.inl ((Aq (Aq z1.1 (nOf z1.2.2.2) (z5.1,
 ((z5.2.1.1,none),z5.2.2))) (nOf z1.2.2.2) (z6.1,(z6.2.1,((z6.2.2.1.1,none),z6.2.2.2)))),((Al z2.1 [(z4.1,((z4.2.1.1,(I3 z4.2.1.2)),((z4.2.2.1.1,(I3 z4.2.2.1.2)),
 z4.2.2.2)))]),z2.2))))))))))))) (some (.inl (z1.1,z2)))))))) (fun (z2:(Q3×Wq))=>(some (.inl (z2.1,(z2.2.1,(z2.2.2,(Aj .i64 z1.2.2.2 1)))))))) (some (.inr (.inl
 (z1.2.1,z1.2.2.1)))))
def Xv (x:tqY):Ybn:=(Ao (Ar (Zdl x) (x.1,([],(false,0)))) (fun (z1:Wq)=>(Ao (cnd (Ah z1.2) (bnd (Pj x.2) (fun z2=>(chk (A6 (z1.1.length+1) 96) (some (.inl (Al z1.1 [z2])))))) (some (.inl z1.1))) (fun (z2:Ea)=>(some z2)))))
def Zi7 (x:Ybe):(Int)->Option ((Int) ⊕ Int):=fun (z1:Int)=>(cnd (iLt z1 (Ae x.1.1)) (bnd (idx x.1.1 z1) (fun z2=>(cnd (sEq z2.1 x.2)
 (some (.inr z1)) (some (.inl (Aj .i64 z1 1)))))) (some (.inr (-1))))
def Xs (x:Ybe):(Option Int):=(Ar (Zi7 x) 0)
def Zja (x:Za3):Za5->Option Ybj:=fun (z1:Za5)=>(cnd (iLt z1.2.2 (Ae x.1)) (Ao (Ao (cnd (Ah z1.2.1) (bnd (idx x.1 z1.2.2) (fun z2=>(cnd (iGe z2.1 x.2.1) (chk (A6 (z1.1.length+1) 24) (some (.inl ((Al z1.1 [x.2]),true)))) (some (.inl (z1.1,z1.2.1)))))) (some (.inl (z1.1,z1.2.1)))) (fun (z2 :
 Tn)=>(bnd (idx x.1 z1.2.2) (fun z3=>(cnd (iNe z3.1 x.2.1) (bnd (idx x.1 z1.2.2) (fun z4=>(chk (A6 (z2.1.length+1) 24) (some (.inl ((Al z2.1 [z4]),
 z2.2)))))) (some (.inl z2))))))) (fun (z2:Tn)=>(some (.inl (z2.1,(z2.2,(Aj .i64 z1.2.2 1))))))) (some (.inr (.inl (z1.1,z1.2.1)))))
def Xu (x:Za3):Yb0:=(Ao (Ar (Zja x) ([],(false,0))) (fun (z1:Tn)=>(Ao (cnd (Ah z1.2) (chk (A6 (z1.1.length+1) 24)
 (some (.inl (Al z1.1 [x.2])))) (some (.inl z1.1))) (fun (z2:F9)=>(some z2)))))
def Zcj (x:tqF):Ybd:=(bnd (Uh x.1) (fun z1=>(bnd (Ng x.1) (fun z2=>(cnd (Ah z2) (some (z1,false)) (bnd
 (Pf x.2) (fun z3=>(cnd (Ah z3) (some (z1,false)) (Ao (cnd (iEq x.2.1 1) (bnd (cvL (.P .S (.P (.P (.I .i64) (.L .Y)) (.P (.P (.I .i64) (.L .Y)) (.P (.I
 .i64) .B)))) (.P .S (.P (.P (.I .i64) (.H .Y)) (.P (.P (.I .i64) (.H .Y)) (.P (.I .i64) .B)))) z1.1) (fun z4=>(bnd (Xv (z4,x.2.2.1)) (fun z5=>(some
 (.inl (z5,z1.2.1))))))) (cnd (iEq x.2.1 2) (bnd (Xs (z1,x.2.2.2.1)) (fun z4=>(cnd (iGe z4 0) (chk (Cp 0 z4 (Ae z1.1)) (chk (I2 0 ((nOf z4)-0)
 z1.1.length) (chk (A6 (0+(A9 ((nOf z4)-0) z1.1).length) 96) (chk (Cp (Aj .i64 z4 1) (Ae (mvW (.P .S (.P (.P (.I .i64) (.L .Y)) (.P (.P (.I .i64) (.L .Y)) (.P (.I
 .i64) .B)))) 0 ((nOf z4)-0) z1.1)) (Ae (mvW (.P .S (.P (.P (.I .i64) (.L .Y)) (.P (.P (.I .i64) (.L .Y)) (.P (.I .i64) .B)))) 0 ((nOf z4)-0) z1.1))) (chk (I2 (nOf (Aj
 .i64 z4 1)) ((nOf (Ae (mvW (.P .S (.P (.P (.I .i64) (.L .Y)) (.P (.P (.I .i64) (.L .Y)) (.P (.I .i64) .B)))) 0 ((nOf z4)-0) z1.1)))-(nOf (Aj .i64 z4 1))) (mvW (.P .S (.P
 (.P (.I .i64) (.L .Y)) (.P (.P (.I .i64) (.L .Y)) (.P (.I .i64) .B)))) 0 ((nOf z4)-0) z1.1).length) (bnd (cvL (.P .S (.P (.P (.I .i64) (.H .Y)) (.P (.P (.I .i64) (.H .Y)) (.P
 (.I .i64) .B)))) (.P .S (.P (.P (.I .i64) (.L .Y)) (.P (.P (.I .i64) (.L .Y)) (.P (.I .i64) .B)))) (A9 ((nOf (Ae (mvW (.P .S (.P (.P (.I .i64) (.L .Y)) (.P (.P (.I .i64) (.L
 .Y)) (.P (.I .i64) .B)))) 0 ((nOf z4)-0) z1.1)))-(nOf (Aj .i64 z4 1))) (Dk (nOf (Aj .i64 z4 1)) (mvW (.P .S (.P (.P (.I .i64) (.L .Y)) (.P (.P (.I .i64) (.L .Y)) (.P
 (.I .i64) .B)))) 0 ((nOf z4)-0) z1.1)))) (fun z5=>(chk (A6 ((Al [] (A9 ((nOf z4)-0) z1.1)).length+z5.length) 96) (some (.inl ((Al (Al [] (A9 ((nOf
 z4)-0) z1.1)) z5),z1.2.1))))))))))) (some (.inl (z1.1,z1.2.1)))))) (cnd (iEq x.2.1 3) (some (.inl (z1.1,x.2.2.2.2.1))) (some (.inl (z1.1,z1.2.1)))))) (fun (z4:J5) =>
 (Ao (cnd (iNe x.2.2.2.2.2.1 0) (bnd (Xu (z1.2.2,x.2.2.2.2.2)) (fun z5=>(some (.inl z5)))) (some (.inl z1.2.2))) (fun (z5:F9)=>(bnd (Ng (z4.1,
 (z4.2,z5))) (fun z6=>(cnd (Ah z6) (bnd (Uh x.1) (fun z7=>(some (z7,false)))) (some ((z4.1,(z4.2,z5)),true)))))))))))))))))
def Zi5 (x:D9):O0->Option tqC:=fun (z1:O0)=>(cnd (iLt z1.2 (Ae x.1)) (bnd (idx x.1 z1.2) (fun z2=>(bnd (Pj (z2.1,
 ((z2.2.1.1,z2.2.1.2),((z2.2.2.1.1,z2.2.2.1.2),(z2.2.2.2.1,z2.2.2.2.2))))) (fun z3=>(chk (A6 (z1.1.length+1) 152) (some (.inl ((Al z1.1 [(1,((z3.1,
 ((z3.2.1.1,z3.2.1.2),((z3.2.2.1.1,z3.2.2.1.2),(z3.2.2.2.1,z3.2.2.2.2)))),([],(0,(0,(0,0))))))]),(Aj .i64 z1.2 1))))))))) (some (.inr (.inl z1.1))))
def Zi6 (x:D9):O0->Option tqC:=fun (z2:O0)=>(cnd (iLt z2.2 (Ae x.2.2)) (bnd (idx x.2.2 z2.2) (fun z3=>(bnd (idx x.2.2 z2.2)
 (fun z4=>(bnd (idx x.2.2 z2.2) (fun z5=>(chk (A6 (z2.1.length+1) 152) (some (.inl ((Al z2.1 [(4,(([],((0,[]),((0,[]),(0,false)))),([],(0,
 (z3.1,(z4.2.1,z5.2.2))))))]),(Aj .i64 z2.2 1))))))))))) (some (.inr (.inl z2.1))))
def Xq (x:D9):Ybb:=(Ao (Ar (Zi5 x) ([(3,(([],((0,[]),((0,[]),(0,false)))),([],(x.2.1,(0,(0,0))))))],0)) (fun (z1:M0)
 => (Ao (Ar (Zi6 x) (z1,0)) (fun (z2:M0)=>(some z2)))))
def Xw (x:(Int×Int)):(Option Int):=(some (Aj .i64 (Aj .i64 2 (Md .i64 30 (Dy x.1 2))) x.2))
def Ji (x:Dd):Ff:=(chk (A6 (0+x.1.length) 1) (chk (A6 ((Al [] x.1).length+2) 1) (some (Al (Al [] x.1) [(u8 (Ak .u8 (B2 .i64 x.2
 8))),(u8 (Ak .u8 x.2))]))))
def Ri (x:Zh1):Ff:=(cnd (iGt (Ae x.2) 60) (chk (A6 (0+x.1.length) 1) (some (Al [] x.1))) (bnd (Ji (x.1,(Ae x.2))) (fun z1=>(chk (A6 (z1.length+x.2.length) 1) (some (Al z1 x.2))))))
def Zil (x:Bool):(Option UInt8):=(cnd x (some (u8 1)) (some (u8 0)))
def Uf (x:((List UInt8)×Eb)):Ff:=(chk (A6 (x.1.length+1) 1) (bnd (Ri ((Al x.1 [(u8 (Ak .u8 x.2.1))]),x.2.2)) (fun z1=>(some z1))))
def Xp (x:Ybm):Ff:=(chk (A6 (0+x.1.length) 1) (bnd (Nf (x.2.1,((x.2.2.1.1,x.2.2.1.2),((x.2.2.2.1.1,x.2.2.2.1.2),(x.2.2.2.2.1,
 x.2.2.2.2.2))))) (fun z1=>(cnd (Ah z1) (some (Al [] x.1)) (bnd (Ri ((Al [] x.1),x.2.1)) (fun z2=>(bnd (Zil x.2.2.2.2.2) (fun
 z3=>(chk (A6 (z2.length+2) 1) (Ao (bnd (Dh (x.2.1,((x.2.2.1.1,x.2.2.1.2),((x.2.2.2.1.1,x.2.2.2.1.2),(x.2.2.2.2.1,x.2.2.2.2.2))))) (fun z4
 => (cnd z4 (bnd (Uf ((Al z2 [(u8 (Ak .u8 x.2.2.2.2.1)),z3]),(x.2.2.1.1,x.2.2.1.2))) (fun z5=>(some (.inl z5)))) (some (.inl (Al z2 [(u8
 (Ak .u8 x.2.2.2.2.1)),z3])))))) (fun (z4:(List UInt8))=>(Ao (bnd (C0 (x.2.1,((x.2.2.1.1,x.2.2.1.2),((x.2.2.2.1.1,x.2.2.2.1.2),(x.2.2.2.2.1,
 x.2.2.2.2.2))))) (fun z5=>(cnd z5 (bnd (Uf (z4,(x.2.2.2.1.1,x.2.2.2.1.2))) (fun z6=>(some (.inl z6)))) (some (.inl z4))))) (fun (z5 :
 (List UInt8))=>(some z5))))))))))))))
def Zi8:(Int×Int)->Option Ybw:=fun (z3:(Int×Int))=>(cnd (iLt z3.2 8) (Ao (cnd (iGt (B1 .i64 z3.1 1) 65535) (some (.inl (Qe .i64 (B1 .i64
 z3.1 1) 69665))) (some (.inl (B1 .i64 z3.1 1)))) (fun (z4:Int)=>(some (.inl (z4,(Aj .i64 z3.2 1)))))) (some (.inr (.inl z3.1))))
def Zi9 (x:(List UInt8)):(Int×Int)->Option M2:=fun (z1:(Int×Int))=>(cnd (iLt z1.2 (Ae x)) (Ao (bnd (idx x z1.2) (fun z2 =>
 (Ar (Zi8) ((Qe .i64 z1.1 (B1 .i64 (Ak .i64 (y2i z2)) 8)),0)))) (fun (z2:Int)=>(some (.inl (z2,(Aj .i64 z1.2 1)))))) (some (.inr (.inl z1.1))))
def Pg (x:(List UInt8)):(Option Int):=(Ao (Ar (Zi9 x) (65535,0)) (fun (z1:Int)=>(some (Aw .i64 z1 65535))))
def Zcr (x:Ybc):Ff:=(bnd (Pf (x.2.2.1,((x.2.2.2.1.1,((x.2.2.2.1.2.1.1,x.2.2.2.1.2.1.2),((x.2.2.2.1.2.2.1.1,x.2.2.2.1.2.2.1.2),
 (x.2.2.2.1.2.2.2.1,x.2.2.2.1.2.2.2.2)))),(x.2.2.2.2.1,(x.2.2.2.2.2.1,(x.2.2.2.2.2.2.1,(x.2.2.2.2.2.2.2.1,x.2.2.2.2.2.2.2.2))))))) (fun z1=>(cnd (Ah z1) (some
 []) (bnd (Ni x.1) (fun z2=>(cnd (Ah z2) (some []) (bnd (Ni x.2.1) (fun z3=>(cnd (Ah z3) (some []) (al 3 (bnd (Ji ([],x.1)) (fun
 z4=>(bnd (Ji (z4,x.2.1)) (fun z5=>(chk (A6 (z5.length+1) 1) (Ao (cnd (iEq x.2.2.1 1) (bnd (Xp ((Al z5 [(u8 (Ak
 .u8 x.2.2.1))]),(x.2.2.2.1.1,((x.2.2.2.1.2.1.1,x.2.2.2.1.2.1.2),((x.2.2.2.1.2.2.1.1,x.2.2.2.1.2.2.1.2),(x.2.2.2.1.2.2.2.1,x.2.2.2.1.2.2.2.2)))))) (fun z6
 => (some (.inl z6)))) (cnd (iEq x.2.2.1 2) (bnd (Ri ((Al z5 [(u8 (Ak .u8 x.2.2.1))]),x.2.2.2.2.1)) (fun z6=>(some (.inl z6)))) (cnd (iEq x.2.2.1
 3) (chk (A6 ((Al z5 [(u8 (Ak .u8 x.2.2.1))]).length+1) 1) (some (.inl (Al (Al z5 [(u8 (Ak .u8 x.2.2.1))]) [(u8 (Ak .u8 x.2.2.2.2.2.1))])))) (some (.inl (Al
 z5 [(u8 (Ak .u8 x.2.2.1))])))))) (fun (z6:(List UInt8))=>(chk (A6 (z6.length+2) 1) (bnd (Ji ((Al z6 [(u8 (Ak .u8 x.2.2.2.2.2.2.1)),(u8 (Ak .u8
 x.2.2.2.2.2.2.2.2))]),x.2.2.2.2.2.2.2.1)) (fun z7=>(bnd (Pg z7) (fun z8=>(bnd (Ji (z7,z8)) (fun z9=>(some
 z9)))))))))))))))))))))))))
def Ue (x:Dg):Yb2:=(cnd (iEq x.2.2.1 0) (some (false,((-1),true))) (cnd (iGt x.2.2.1 0) (some (true,((A1 .i64 x.2.2.1 1),x.2.2.2))) (some (true,
 (x.2.2.1,x.2.2.2)))))
def Ph (x:Ybp):(Option Zhv):=(cnd x.1.2.2.2 (some (x.1.2.1,(x.1.2.2.1,x.1.2.2.2))) (bnd (Br (x.2.1,(0,(A1 .i64 (Ae x.1.1) 1)))) (fun
 z1=>(cnd (Ah z1) (some (x.1.2.1,(x.1.2.2.1,x.1.2.2.2))) (cnd (iGt (Ae x.2.2) 120) (some (x.1.2.1,(x.1.2.2.1,x.1.2.2.2))) (cnd (iGe (Ae x.1.2.1) 40) (some
 (x.1.2.1,(x.1.2.2.1,x.1.2.2.2))) (bnd (Ue (x.1.1,(x.1.2.1,(x.1.2.2.1,x.1.2.2.2)))) (fun z2=>(cnd (Ah z2.1) (some (x.1.2.1,(z2.2.1,z2.2.2))) (chk (A6
 (0+x.2.2.length) 1) (chk (A6 (x.1.2.1.length+1) 32) (some ((Al x.1.2.1 [(x.2.1,(Al [] x.2.2))]),(z2.2.1,z2.2.2))))))))))))))
def Nh (x:(List (List UInt8))×(List (Int×(List UInt8)))×Int×Bool):Option ((List (List UInt8))×(List (Int×(List UInt8)))×Int×Bool):=chk (decide ((-1<=x.2.2.1/\x.2.2.1<=1000)/\x.1.length<2^40/\x.2.1.length<2^40/\∀w∈x.2.1,0<=w.1/\w.1<=(x.1.length:Int)-1)) (some (flC x.1 x.2.1 x.2.2.1 x.2.2.2))
def Zco (x:(Int×Int)):Ff:=(bnd (Br (x.1,(1,60000))) (fun z1=>(cnd (Ah z1) (some []) (bnd (Br (x.2,(0,30))) (fun z2=>(cnd (Ah z2) (some []) (bnd (Ji ([],x.1)) (fun z3=>(bnd (Ji (z3,x.2)) (fun z4=>(bnd (Pg z4) (fun z5 =>
 (bnd (Ji (z4,z5)) (fun z6=>(some z6)))))))))))))))
def Zdm (x:tqQ) (z1:M0):Zhu->Option (Zhu ⊕ (Zhv ⊕ Zp1)):=fun (z2:Zhu)=>(cnd (iLt z2.2.2.2 (Ae z1)) (bnd (Xw (x.2,z2.2.2.2))
 (fun z3=>(bnd (idx z1 z2.2.2.2) (fun z4=>(bnd (Zcr (x.2,(z2.2.2.2,z4))) (fun z5=>(bnd (Ph ((x.1.1.1,(z2.1,(z2.2.1,
 z2.2.2.1))),(z3,z5))) (fun z6=>(some (.inl (z6.1,(z6.2.1,(z6.2.2,(Aj .i64 z2.2.2.2 1)))))))))))))) (some (.inr (.inl (z2.1,(z2.2.1,z2.2.2.1))))))
def Xx (x:tqQ):(Option Zp1):=(bnd (Xq x.1.2.1) (fun z1=>(Ao (Ar (Zdm x z1) (x.1.1.2.1,(x.1.1.2.2.1,(x.1.1.2.2.2,
 0)))) (fun (z2:Zhv)=>(bnd (Nh (x.1.1.1,z2)) (fun z3=>(bnd (Zco (x.2,(Ae z1))) (fun z4=>(bnd (Ph (z3,((Dy x.2
 2),z4))) (fun z5=>(bnd (Nh (z3.1,z5)) (fun z6=>(cnd (Ah z6.2.2.2) (some (z6.1,(z6.2.1,(z6.2.2.1,(z6.2.2.2,(x.1.2.1.2.1,(x.2,(Ae
 z1)))))))) (some (z6.1,(z6.2.1,(z6.2.2.1,(z6.2.2.2,(x.1.2.1.2.1,x.1.2.2)))))))))))))))))))
def Rn (x:Ek):Dd->Option Ybv:=fun (z1:Dd)=>(cnd (iLt z1.2 (Ae x)) (bnd (idx x z1.2) (fun z2=>(chk (A6 (z1.1.length
 + z2.length) 1) (some (.inl ((Al z1.1 z2),(Aj .i64 z1.2 1))))))) (some (.inr (.inl z1.1))))
def F4 (x:Ek):Ff:=(Ao (Ar (Rn x) ([],0)) (fun (z1:(List UInt8))=>(some z1)))
def Zc6 (x:Dg):Gs->Option Zpz:=fun (z1:Gs)=>(cnd (iLt z1.2 (Ae x.1)) (bnd (idx x.1 z1.2) (fun z2=>(bnd (F4
 [z2]) (fun z3=>(chk (A6 (z1.1.length+1) 24) (some (.inl ((Al z1.1 [z3]),(Aj .i64 z1.2 1))))))))) (some (.inr (.inl z1.1))))
def Zc7 (x:Dg):H9->Option Ybg:=fun (z2:H9)=>(cnd (iLt z2.2 (Ae x.2.1)) (bnd (idx x.2.1 z2.2) (fun z3=>(bnd (F4
 [z3.2]) (fun z4=>(chk (A6 (z2.1.length+1) 32) (some (.inl ((Al z2.1 [(z3.1,z4)]),(Aj .i64 z2.2 1))))))))) (some (.inr (.inl z2.1))))
def L0 (x:Dg):Ws:=(Ao (Ar (Zc6 x) ([],0)) (fun (z1:Ek)=>(Ao (Ar (Zc7 x) ([],0)) (fun (z2:E6)=>(some
 (z1,(z2,(x.2.2.1,x.2.2.2))))))))
def Xf (x:Eb):Zh0:=(bnd (F4 [x.2]) (fun z1=>(some (x.1,z1))))
def Pd (x:Hj):Ybq:=(bnd (Xf x.2.1) (fun z1=>(bnd (Xf x.2.2.1) (fun z2=>(some (x.1,(z1,(z2,
 x.2.2.2))))))))
def Yc2 (x:D9):J5->Option tqE:=fun (z1:J5)=>(cnd (iLt z1.2 (Ae x.1)) (bnd (idx x.1 z1.2) (fun z2=>(bnd (Pd (z2.1,
 ((z2.2.1.1,z2.2.1.2),((z2.2.2.1.1,z2.2.2.1.2),(z2.2.2.2.1,z2.2.2.2.2))))) (fun z3=>(chk (A6 (z1.1.length+1) 96) (some (.inl ((Al z1.1 [(z3.1,((z3.2.1.1,
 z3.2.1.2),((z3.2.2.1.1,z3.2.2.1.2),(z3.2.2.2.1,z3.2.2.2.2))))]),(Aj .i64 z1.2 1))))))))) (some (.inr (.inl z1.1))))
def T2 (x:D9):Ybh:=(al 2 (chk (A6 (0+x.2.2.length) 24) (Ao (Ar (Yc2 x) ([],0)) (fun (z1:Ea)=>(some (z1,(x.2.1,(Al []
 x.2.2))))))))
def Zig (x:tqT):tqN:=(bnd (L0 x.1) (fun z1=>(bnd (T2 x.2.1) (fun z2=>(some (z1,(z2,x.2.2)))))))
def K5 (x:Za4):Cb:=(cnd (iEq x.1.1 x.2.1) (some (sEq x.1.2 x.2.2)) (some false))
def Zbu (x:Yba):Cb:=(cnd (sEq x.1.1 x.2.1) (bnd (K5 ((x.1.2.1.1,x.1.2.1.2),(x.2.2.1.1,x.2.2.1.2))) (fun z1=>(cnd z1 (bnd
 (K5 ((x.1.2.2.1.1,x.1.2.2.1.2),(x.2.2.2.1.1,x.2.2.2.1.2))) (fun z2=>(cnd z2 (cnd (iEq x.1.2.2.2.1 x.2.2.2.2.1) (some (bEq x.1.2.2.2.2 x.2.2.2.2.2)) (some
 false)) (some false)))) (some false)))) (some false))
def Cu (x:Iw):Cb:=(cnd (iGe x.1 x.2.1) (some (iLe x.1 x.2.2)) (some false))
def Yc1 (x:(List UInt8)):(Int)->Option O2:=fun (z1:Int)=>(cnd (iLt z1 (Ae x)) (bnd (idx x z1) (fun z2=>(bnd (Cu ((Ak
 .i64 (y2i z2)),(97,122))) (fun z3=>(cnd (Ah z3) (bnd (idx x z1) (fun z4=>(bnd (Cu ((Ak .i64 (y2i z4)),(48,57))) (fun z5=>(cnd
 (Ah z5) (some (.inr (.inr false))) (some (.inl (Aj .i64 z1 1)))))))) (some (.inl (Aj .i64 z1 1)))))))) (some (.inr (.inl ()))))
def W9 (x:(List UInt8)):Cb:=(Ao (Ar (Yc1 x) 0) (fun (z1:Unit)=>(bnd (Cu ((Ae x),(1,6))) (fun z2=>(some
 z2)))))
def Zbs (x:Int):Cb:=(bnd (Cu (x,(0,5))) (fun z1=>(some z1)))
def W3 (x:Eb):Cb:=(bnd (Zbs x.1) (fun z1=>(cnd z1 (some (iLe (Ae x.2) 20)) (some false))))
def Nj (x:(List UInt8)):(Option (Int×Int)):=(cnd (iLt (Ae x) 1) (some (65533,0)) (bnd (idx x 0) (fun z1=>(chk (iLe 0 (y2i
 z1)) (chk (iLt (y2i z1) 256) (bnd (idx P5 (Int.ofNat (0+((nOf (y2i z1))*1)))) (fun z2=>(cnd (iGe (y2i z2) (y2i (u8 240))) (bnd (idx x 0) (fun z3 =>
 (some ((iOr .i32 (Zl4 .i32 (Ak .i32 (y2i z3)) (B2 .i32 (B1 .i32 (Ak .i32 (y2i z2)) 31) 31)) (Aw .i32 65533 (B2 .i32 (B1 .i32 (Ak .i32 (y2i z2)) 31) 31))),
 1)))) (chk (iLe 0 (y2i (u8 (B2 .u8 (y2i z2) 4)))) (chk (iLt (y2i (u8 (B2 .u8 (y2i z2) 4))) 16) (bnd (idx U9 (Int.ofNat (0+((nOf (y2i (u8 (B2 .u8 (y2i z2) 4))))*2))))
 (fun z3=>(bnd (idx U9 (Int.ofNat ((0+((nOf (y2i (u8 (B2 .u8 (y2i z2) 4))))*2))+1))) (fun z4=>(cnd (iLt (Ae x) (Ak .i64 (y2i (u8 (Aw .u8
 (y2i z2) (y2i (u8 7))))))) (some (65533,1)) (bnd (idx x 1) (fun z5=>(cnd (iLt (y2i z5) (y2i z3)) (some (65533,1)) (cnd (iLt (y2i z4) (y2i z5)) (some (65533,1))
 (cnd (iLe (Ak .i64 (y2i (u8 (Aw .u8 (y2i z2) (y2i (u8 7)))))) 2) (some ((iOr .i32 (B1 .i32 (Ak .i32 (y2i (u8 (Aw .u8 (y2i z1) (y2i (u8 31)))))) 6) (Ak .i32 (y2i
 (u8 (Aw .u8 (y2i z5) (y2i (u8 63))))))),2)) (bnd (idx x 2) (fun z6=>(cnd (iLt (y2i z6) (y2i (u8 128))) (some (65533,1)) (cnd (iLt (y2i (u8 191)) (y2i z6)) (some
 (65533,1)) (cnd (iLe (Ak .i64 (y2i (u8 (Aw .u8 (y2i z2) (y2i (u8 7)))))) 3) (some ((iOr .i32 (iOr .i32 (B1 .i32 (Ak .i32 (y2i (u8 (Aw .u8 (y2i z1) (y2i (u8 15))))))
 12) (B1 .i32 (Ak .i32 (y2i (u8 (Aw .u8 (y2i z5) (y2i (u8 63)))))) 6)) (Ak .i32 (y2i (u8 (Aw .u8 (y2i z6) (y2i (u8 63))))))),3)) (bnd (idx x 3) (fun z7 =>
 (cnd (iLt (y2i z7) (y2i (u8 128))) (some (65533,1)) (cnd (iLt (y2i (u8 191)) (y2i z7)) (some (65533,1)) (some ((iOr .i32 (iOr .i32 (iOr .i32 (B1 .i32 (Ak .i32 (y2i (u8
 (Aw .u8 (y2i z1) (y2i (u8 7)))))) 18) (B1 .i32 (Ak .i32 (y2i (u8 (Aw .u8 (y2i z5) (y2i (u8 63)))))) 12)) (B1 .i32 (Ak .i32 (y2i (u8 (Aw .u8 (y2i z6) (y2i (u8
 63)))))) 6)) (Ak .i32 (y2i (u8 (Aw .u8 (y2i z7) (y2i (u8 63))))))),4)))))))))))))))))))))))))))))))
def Yd (x:(List UInt8)):(Int)->Option ((Int) ⊕ (Unit ⊕ (Int×Int))):=fun (z1:Int)=>(cnd (iLt z1 (Ae x)) (bnd (idx x z1) (fun z2=>(cnd (iLt (y2i z2) (y2i (u8 128))) (some (.inr (.inr ((Ak .i32 (y2i z2)),1)))) (some (.inr (.inl ())))))) (some (.inr (.inl ()))))
def Zcw (x:(List UInt8)):(Option (Int×Int)):=(Ao (Ar (Yd x) 0) (fun (z1:Unit)=>(bnd (Nj x) (fun
 z2=>(some (z2.1,z2.2))))))
def Zbo (x:Dd):Iv:=(cnd (iLt x.2 0) (some (0,(0,false))) (cnd (iGe x.2 (Ae x.1)) (some (0,(0,false))) (chk (Cp x.2 (Ae x.1) (Ae x.1))
 (chk (S5 (nOf x.2) (A9 ((nOf (Ae x.1))-(nOf x.2)) (Dk (nOf x.2) x.1)).length) (bnd (Zcw (A9 ((nOf (Ae x.1))-(nOf x.2)) (Dk (nOf x.2) x.1)))
 (fun z1=>(cnd (iEq z1.1 65533) (cnd (iLt z1.2 2) (some (0,(0,false))) (some ((Ak .i64 z1.1),((Aj .i64 x.2 z1.2),true)))) (some ((Ak .i64 z1.1),
 ((Aj .i64 x.2 z1.2),true))))))))))
def Zid (x:(Int×Int)):Zh2:=(cnd (iEq x.1 164) (bnd (Cu (x.2,(161,243))) (fun z1=>(cnd z1 (some ((A1 .i64 (Aj .i64 12353
 x.2) 161),true)) (cnd (iEq x.1 165) (bnd (Cu (x.2,(161,246))) (fun z2=>(cnd z2 (some ((A1 .i64 (Aj .i64 12449 x.2) 161),true)) (some (0,false)))))
 (some (0,false)))))) (cnd (iEq x.1 165) (bnd (Cu (x.2,(161,246))) (fun z1=>(cnd z1 (some ((A1 .i64 (Aj .i64 12449 x.2) 161),true)) (some (0,false)))))
 (some (0,false))))
def Zbn (x:Dd):Iv:=(cnd (iLt x.2 0) (some (0,(0,false))) (cnd (iGe x.2 (Ae x.1)) (some (0,(0,false))) (bnd (idx x.1 x.2) (fun z1 =>
 (cnd (iLe (y2i z1) (y2i (u8 127))) (bnd (idx x.1 x.2) (fun z2=>(some ((Ak .i64 (y2i z2)),((Aj .i64 x.2 1),true))))) (cnd (iEq (Aj .i64 x.2 1) (Ae x.1))
 (some (0,(0,false))) (bnd (idx x.1 x.2) (fun z2=>(bnd (idx x.1 (Aj .i64 x.2 1)) (fun z3=>(bnd (Zid ((Ak .i64 (y2i z2)),(Ak .i64 (y2i
 z3)))) (fun z4=>(cnd (Ah z4.2) (some (0,(0,false))) (some (z4.1,((Aj .i64 x.2 2),true))))))))))))))))
def Zqq (x:Int):(Option Int):=(cnd (iEq x 164) (some 8364) (cnd (iEq x 166) (some 352) (cnd (iEq x 168) (some 353) (cnd (iEq x 180) (some 381) (cnd
 (iEq x 184) (some 382) (cnd (iEq x 188) (some 338) (cnd (iEq x 189) (some 339) (cnd (iEq x 190) (some 376) (some x)))))))))
def Zqp (x:Int):(Option Int):=(cnd (iGe x 224) (chk (iLe 0 (A1 .i64 x 224)) (chk (iLt (A1 .i64 x 224) 32) (bnd (idx [1102,1072,1073,1094,1076,
 1077,1092,1075,1093,1080,1081,1082,1083,1084,1085,1086,1087,1103,1088,1089,1090,1091,1078,1074,1100,1099,1079,1096,1101,1097,1095,1098] (Int.ofNat (0 +
 ((nOf (A1 .i64 x 224))*1)))) (fun z1=>(some (A1 .i64 z1 32)))))) (cnd (iGe x 192) (chk (iLe 0 (A1 .i64 x 192)) (chk (iLt (A1 .i64 x 192) 32) (bnd (idx [1102,
 1072,1073,1094,1076,1077,1092,1075,1093,1080,1081,1082,1083,1084,1085,1086,1087,1103,1088,1089,1090,1091,1078,1074,1100,1099,1079,1096,1101,1097,
 1095,1098] (Int.ofNat (0+((nOf (A1 .i64 x 192))*1)))) (fun z1=>(some z1))))) (cnd (iEq x 163) (some 1105) (cnd (iEq x 179) (some 1025) (some 0)))))
def Zqr (x:Int):(Option Int):=(cnd (iGe x 160) (some x) (chk (iLe 0 (A1 .i64 x 128)) (chk (iLt (A1 .i64 x 128) 32) (bnd (idx [8364,0,8218,402,
 8222,8230,8224,8225,710,8240,352,8249,338,0,381,0,0,8216,8217,8220,8221,8226,8211,8212,732,8482,353,8250,339,0,382,376] (Int.ofNat (0+((nOf (A1
 .i64 x 128))*1)))) (fun z1=>(some z1))))))
def Q9 (x:(Int×Int)):Zh2:=(bnd (Cu (x.1,(1,4))) (fun z1=>(cnd (Ah z1) (some (0,false)) (bnd (Cu (x.2,(0,255)))
 (fun z2=>(cnd (Ah z2) (some (0,false)) (cnd (iLe x.2 127) (some (x.2,true)) (Ao (cnd (iEq x.1 2) (bnd (Zqq x.2) (fun z3=>(some (.inl z3))))
 (cnd (iEq x.1 3) (bnd (Zqp x.2) (fun z3=>(some (.inl z3)))) (cnd (iEq x.1 4) (bnd (Zqr x.2) (fun z3=>(some (.inl z3)))) (some (.inl x.2)))))
 (fun (z3:Int)=>(some (z3,(iNe z3 0))))))))))))
def Zbv (x:(Int×Dd)):Iv:=(cnd (iEq x.1 0) (bnd (Zbo (x.2.1,x.2.2)) (fun z1=>(some (z1.1,(z1.2.1,z1.2.2))))) (cnd (iEq x.1 5)
 (bnd (Zbn (x.2.1,x.2.2)) (fun z1=>(some (z1.1,(z1.2.1,z1.2.2))))) (bnd (idx x.2.1 x.2.2) (fun z1=>(bnd (Q9 (x.1,(Ak .i64 (y2i
 z1)))) (fun z2=>(some (z2.1,((Aj .i64 x.2.2 1),z2.2)))))))))
def Zif (x:Int):Cb:=(bnd (Cu (x,(0,1114111))) (fun z1=>(cnd z1 (bnd (Cu (x,(55296,57343))) (fun z2=>(some
 (Ah z2)))) (some false))))
def Zip (x:Dd):Ff:=(cnd (iLe (Ak .u32 x.2) 2047) (chk (A6 (x.1.length+2) 1) (some (Al x.1 [(u8 (iOr .u8 (y2i (u8 192)) (y2i
 (u8 (Ak .u8 (B2 .i32 x.2 6)))))),(u8 (iOr .u8 (y2i (u8 128)) (y2i (u8 (Aw .u8 (y2i (u8 (Ak .u8 x.2))) (y2i (u8 63)))))))]))) (Ao (cnd (iLt (Ak .u32 x.2) 55296)
 (some (.inl true)) (cnd (iLt 57343 (Ak .u32 x.2)) (some (.inl (iLe (Ak .u32 x.2) 65535))) (some (.inl false)))) (fun (z1:Bool)=>(cnd z1 (chk (A6 (x.1.length+3) 1)
 (some (Al x.1 [(u8 (iOr .u8 (y2i (u8 224)) (y2i (u8 (Ak .u8 (B2 .i32 x.2 12)))))),(u8 (iOr .u8 (y2i (u8 128)) (y2i (u8 (Aw .u8 (y2i (u8 (Ak .u8 (B2 .i32 x.2 6))))
 (y2i (u8 63))))))),(u8 (iOr .u8 (y2i (u8 128)) (y2i (u8 (Aw .u8 (y2i (u8 (Ak .u8 x.2))) (y2i (u8 63)))))))]))) (cnd (iGt (Ak .u32 x.2) 65535) (cnd (iLe (Ak .u32 x.2)
 1114111) (chk (A6 (x.1.length+4) 1) (some (Al x.1 [(u8 (iOr .u8 (y2i (u8 240)) (y2i (u8 (Ak .u8 (B2 .i32 x.2 18)))))),(u8 (iOr .u8 (y2i (u8 128)) (y2i (u8 (Aw .u8
 (y2i (u8 (Ak .u8 (B2 .i32 x.2 12)))) (y2i (u8 63))))))),(u8 (iOr .u8 (y2i (u8 128)) (y2i (u8 (Aw .u8 (y2i (u8 (Ak .u8 (B2 .i32 x.2 6)))) (y2i (u8 63))))))),(u8 (iOr
 .u8 (y2i (u8 128)) (y2i (u8 (Aw .u8 (y2i (u8 (Ak .u8 x.2))) (y2i (u8 63)))))))]))) (chk (A6 (x.1.length+3) 1) (some (Al x.1 [(u8 239),(u8 191),(u8 189)])))) (chk
 (A6 (x.1.length+3) 1) (some (Al x.1 [(u8 239),(u8 191),(u8 189)]))))))))
def Zio (x:Dd):Ff:=(cnd (iLe (Ak .u32 x.2) 127) (chk (A6 (x.1.length+1) 1) (some (Al x.1 [(u8 (Ak .u8 x.2))]))) (bnd
 (Zip (x.1,x.2)) (fun z1=>(some z1))))
def Zbq (x:Dd):Ff:=(bnd (F4 [x.1]) (fun z1=>(bnd (Zif x.2) (fun z2=>(cnd (Ah z2) (some z1) (bnd
 (Zio (z1,(Ak .i32 x.2))) (fun z3=>(some z3))))))))
def Ziu (x:Eb):Dd->Option Ybs:=fun (z2:Dd)=>(cnd (iLt z2.2 (Ae x.2)) (bnd (Zbv (x.1,(x.2,z2.2))) (fun z3=>(cnd (Ah
 z3.2.2) (some (.inr (.inr ([],false)))) (bnd (Zbq (z2.1,z3.1)) (fun z4=>(some (.inl (z4,z3.2.1)))))))) (some (.inr (.inl z2.1))))
def Zbm (x:Eb):Zhz:=(bnd (Zbs x.1) (fun z1=>(cnd (Ah z1) (some ([],false)) (Ao (Ar (Ziu x) ([],0)) (fun (z2 :
 (List UInt8))=>(some (z2,true)))))))
def Ra (x:Eb):Zhz:=(bnd (W3 (x.1,x.2)) (fun z1=>(cnd (Ah z1) (some ([],false)) (bnd (Zbm (x.1,x.2)) (fun z2
 => (some (z2.1,z2.2)))))))
def Zie (x:Za4):Cb:=(bnd (Ra (x.1.1,x.1.2)) (fun z1=>(bnd (Ra (x.2.1,x.2.2)) (fun z2=>(cnd z1.2 (cnd
 z2.2 (some (sEq z1.1 z2.1)) (some false)) (some false))))))
def K3 (x:Hj):Cb:=(bnd (W9 x.1) (fun z1=>(cnd (Ah z1) (some false) (bnd (Cu (x.2.2.2.1,(1,3))) (fun z2 =>
 (cnd (Ah z2) (some false) (bnd (Ra (x.2.1.1,x.2.1.2)) (fun z3=>(bnd (Ra (x.2.2.1.1,x.2.2.1.2)) (fun z4=>(bnd (K5
 ((x.2.1.1,x.2.1.2),(0,[]))) (fun z5=>(Ao (cnd (iNe x.2.2.2.1 2) (bnd (W3 (x.2.1.1,x.2.1.2)) (fun z6=>(cnd z6 (cnd (iNe x.2.1.1 0) (cnd z3.2
 (some (.inl true)) (cnd x.2.2.2.2 (some (.inl (iEq x.2.2.2.1 1))) (some (.inl false)))) (some (.inl false))) (some (.inl false))))) (some (.inl z5))) (fun (z6:Bool)=>(bnd
 (K5 ((x.2.2.1.1,x.2.2.1.2),(0,[]))) (fun z7=>(Ao (cnd (iNe x.2.2.2.1 1) (cnd (iEq x.2.2.1.1 0) (some (.inl z4.2)) (some (.inl false))) (some (.inl
 z7))) (fun (z8:Bool)=>(cnd z6 (cnd z8 (cnd (iNe x.2.2.2.1 3) (some true) (bnd (Zie ((x.2.1.1,x.2.1.2),(x.2.2.1.1,x.2.2.1.2))) (fun z9=>(some z9))))
 (some false)) (some false))))))))))))))))))))
def M9 (x:Int):Cb:=(bnd (Cu (x,(0,65535))) (fun z1=>(some z1)))
def Pc (x:M1):Cb:=(bnd (Zbu ((x.2.1.1,((x.2.1.2.1.1,x.2.1.2.1.2),((x.2.1.2.2.1.1,x.2.1.2.2.1.2),(x.2.1.2.2.2.1,x.2.1.2.2.2.2)))),([],
 ((0,[]),((0,[]),(0,false)))))) (fun z1=>(Ao (cnd (iEq x.1 1) (bnd (K3 (x.2.1.1,((x.2.1.2.1.1,x.2.1.2.1.2),((x.2.1.2.2.1.1,x.2.1.2.2.1.2),
 (x.2.1.2.2.2.1,x.2.1.2.2.2.2))))) (fun z2=>(cnd z2 (cnd (sEq x.2.2.1 []) (some (.inl (iEq x.2.2.2.1 0))) (some (.inl false))) (some (.inl false))))) (cnd (iEq x.1 2)
 (cnd z1 (bnd (W9 x.2.2.1) (fun z2=>(cnd z2 (some (.inl (iEq x.2.2.2.1 0))) (some (.inl false))))) (some (.inl false))) (cnd (iEq x.1 3) (cnd z1 (cnd (sEq
 x.2.2.1 []) (bnd (Cu (x.2.2.2.1,(0,7))) (fun z2=>(some (.inl z2)))) (some (.inl false))) (some (.inl false))) (cnd (iEq x.1 4) (cnd z1 (cnd (sEq x.2.2.1 [])
 (cnd (iEq x.2.2.2.1 0) (some (.inl (iNe x.2.2.2.2.1 0))) (some (.inl false))) (some (.inl false))) (some (.inl false))) (some (.inl false)))))) (fun (z2:Bool)=>(cnd (iEq
 x.2.2.2.2.1 0) (cnd z2 (cnd (iEq x.2.2.2.2.2.1 0) (some (iEq x.2.2.2.2.2.2 0)) (some false)) (some false)) (cnd z2 (bnd (Cu (x.2.2.2.2.1,(1,9))) (fun z3 =>
 (cnd z3 (bnd (M9 x.2.2.2.2.2.1) (fun z4=>(cnd z4 (bnd (Cu (x.2.2.2.2.2.2,(0,6))) (fun z5=>(some z5))) (some false)))) (some false))))
 (some false)))))))
def Zc4 (x:D9):(Int)->Option O2:=fun (z1:Int)=>(cnd (iLt z1 (Ae x.1)) (bnd (idx x.1 z1) (fun z2=>(bnd (K3 (z2.1,
 ((z2.2.1.1,z2.2.1.2),((z2.2.2.1.1,z2.2.2.1.2),(z2.2.2.2.1,z2.2.2.2.2))))) (fun z3=>(cnd (Ah z3) (some (.inr (.inr false))) (cnd (iGt z1 0) (bnd (idx x.1 (A1
 .i64 z1 1)) (fun z4=>(cnd (Ah (sLt z4.1 z2.1)) (some (.inr (.inr false))) (some (.inl (Aj .i64 z1 1)))))) (some (.inl (Aj .i64 z1 1))))))))) (some (.inr (.inl
 ()))))
def Zc5 (x:D9):(Int)->Option O2:=fun (z2:Int)=>(cnd (iLt z2 (Ae x.2.2)) (bnd (idx x.2.2 z2) (fun z3=>(bnd (Cu (z3.1,(1,
 9))) (fun z4=>(cnd (Ah z4) (some (.inr (.inr false))) (bnd (M9 z3.2.1) (fun z5=>(cnd (Ah z5) (some (.inr (.inr false))) (bnd (Cu
 (z3.2.2,(0,6))) (fun z6=>(cnd (Ah z6) (some (.inr (.inr false))) (cnd (iGt z2 0) (bnd (idx x.2.2 (A1 .i64 z2 1)) (fun z7=>(cnd (iGe z7.1 z3.1) (some
 (.inr (.inr false))) (some (.inl (Aj .i64 z2 1)))))) (some (.inl (Aj .i64 z2 1))))))))))))))) (some (.inr (.inl ()))))
def M8 (x:D9):Cb:=(Ao (Ar (Zc4 x) 0) (fun (z1:Unit)=>(Ao (Ar (Zc5 x) 0) (fun (z2:Unit)=>(cnd (iLe (Ae x.1) 8)
 (bnd (Cu (x.2.1,(0,7))) (fun z3=>(some z3))) (some false))))))
def Zc8 (x:tqY):tqW->Option (tqW ⊕ tqZ):=fun (z1:tqW)=>(cnd (iLt z1.2.2.2 (Ae x.1)) (Ao (bnd (idx z1.2.2.1 z1.2.2.2) (fun z2 =>
 (chk (G7 z2.2.1.2) (chk (G7 z2.2.2.1.2) (Ao (cnd (Ah z1.2.1) (cnd (Ah (sLt z2.1 x.2.1)) (bnd (Pd x.2) (fun z3=>(chk (A6 (z1.1.length+1) 96)
 (some (.inl ((Al z1.1 [z3]),true)))))) (some (.inl (z1.1,z1.2.1)))) (some (.inl (z1.1,z1.2.1)))) (fun (z3:Wq)=>(cnd (Ah (sEq z2.1 x.2.1)) (bnd (idx z1.2.2.1
 (Int.ofNat (nOf z1.2.2.2))) (fun z4=>(bnd (idx (Aq z1.2.2.1 (nOf z1.2.2.2) (z4.1,((z4.2.1.1,none),z4.2.2))) (Int.ofNat (nOf z1.2.2.2))) (fun z5=>(chk
 (A6 (z3.1.length+1) 96) (some (.inl ((Al z3.1 [(z2.1,((z2.2.1.1,(I3 z2.2.1.2)),((z2.2.2.1.1,(I3 z2.2.2.1.2)),z2.2.2.2)))]),(z3.2,(Aq (Aq z1.2.2.1 (nOf
 z1.2.2.2) (z4.1,((z4.2.1.1,none),z4.2.2))) (nOf z1.2.2.2) (z5.1,(z5.2.1,((z5.2.2.1.1,none),z5.2.2.2))))))))))))) (some (.inl (z3.1,(z3.2,z1.2.2.1))))))))))) (fun (z2 :
 (Ea×(Bool×Q3)))=>(some (.inl (z2.1,(z2.2.1,(z2.2.2,(Aj .i64 z1.2.2.2 1)))))))) (some (.inr (.inl (z1.1,z1.2.1)))))
def Xg (x:tqY):Ybn:=(Ao (Ar (Zc8 x) ([],(false,(x.1,0)))) (fun (z1:Wq)=>(Ao (cnd (Ah z1.2) (bnd (Pd x.2) (fun
 z2=>(chk (A6 (z1.1.length+1) 96) (some (.inl (Al z1.1 [z2])))))) (some (.inl z1.1))) (fun (z2:Ea)=>(some z2)))))
def W2 (x:(Hj×M1)):(Option Yup):=(some ((sEq x.1.1 x.2.2.2.1),(x.2.1,(x.2.2.1.1,(x.2.2.1.2.1.1,(x.2.2.1.2.2.1.1,(x.2.2.1.2.2.2.1,
 (x.2.2.1.2.2.2.2,x.2.2.2))))))))
def Zjb (x:tqK):Zht->Option (Zht ⊕ Ybk):=fun (z1:Zht)=>(cnd (iLt z1.2.2.2.2.2.2.2.2.2.2.2 (Ae x.1)) (bnd (idx x.1
 z1.2.2.2.2.2.2.2.2.2.2.2) (fun z2=>(bnd (W2 (z2,(z1.1,((z1.2.1,((z1.2.2.1,x.2.2.1.2.1.2),((z1.2.2.2.1,x.2.2.1.2.2.1.2),(z1.2.2.2.2.1,
 z1.2.2.2.2.2.1)))),(z1.2.2.2.2.2.2.1,(z1.2.2.2.2.2.2.2.1,(z1.2.2.2.2.2.2.2.2.1,(z1.2.2.2.2.2.2.2.2.2.1,z1.2.2.2.2.2.2.2.2.2.2.1)))))))) (fun z3=>(cnd z3.1 (some
 (.inr (z1.2.2.2.2.2.2.2.2.2.2.2,z3.2))) (some (.inl (z3.2.1,(z3.2.2.1,(z3.2.2.2.1,(z3.2.2.2.2.1,(z3.2.2.2.2.2.1,(z3.2.2.2.2.2.2.1,(z3.2.2.2.2.2.2.2.1,
 (z3.2.2.2.2.2.2.2.2.1,(z3.2.2.2.2.2.2.2.2.2.1,(z3.2.2.2.2.2.2.2.2.2.2.1,(z3.2.2.2.2.2.2.2.2.2.2.2,(Aj .i64 z1.2.2.2.2.2.2.2.2.2.2.2 1))))))))))))))))))) (some (.inr ((-1),
 (z1.1,(z1.2.1,(z1.2.2.1,(z1.2.2.2.1,(z1.2.2.2.2.1,(z1.2.2.2.2.2.1,(z1.2.2.2.2.2.2.1,(z1.2.2.2.2.2.2.2.1,(z1.2.2.2.2.2.2.2.2.1,(z1.2.2.2.2.2.2.2.2.2.1,
 z1.2.2.2.2.2.2.2.2.2.2.1))))))))))))))
def Zcv (x:tqK):(Option Ybk):=(Ar (Zjb x) (x.2.1,(x.2.2.1.1,(x.2.2.1.2.1.1,(x.2.2.1.2.2.1.1,
 (x.2.2.1.2.2.2.1,(x.2.2.1.2.2.2.2,(x.2.2.2.1,(x.2.2.2.2.1,(x.2.2.2.2.2.1,(x.2.2.2.2.2.2.1,(x.2.2.2.2.2.2.2,0))))))))))))
def Yc (x:tqI):tqL->Option (tqL ⊕ (tqS ⊕ tqX)):=fun (z3:tqL)=>(cnd (iLt z3.2.2.2.2.2.2.2.2.2.2.2.2.2 (Ae z3.1)) (Ao (bnd
 (idx z3.1 z3.2.2.2.2.2.2.2.2.2.2.2.2.2) (fun z4=>(chk (G7 z4.2.1.2) (chk (G7 z4.2.2.1.2) (bnd (W2 ((z4.1,((z4.2.1.1,(I3 z4.2.1.2)),((z4.2.2.1.1,
 (I3 z4.2.2.1.2)),z4.2.2.2))),(z3.2.1,((z3.2.2.1,((z3.2.2.2.1,x.2.2.1.2.1.2),((z3.2.2.2.2.1,x.2.2.1.2.2.1.2),(z3.2.2.2.2.2.1,z3.2.2.2.2.2.2.1)))),(z3.2.2.2.2.2.2.2.1,
 (z3.2.2.2.2.2.2.2.2.1,(z3.2.2.2.2.2.2.2.2.2.1,(z3.2.2.2.2.2.2.2.2.2.2.1,z3.2.2.2.2.2.2.2.2.2.2.2.1)))))))) (fun z5=>(cnd (Ah z5.1) (bnd (idx z3.1
 z3.2.2.2.2.2.2.2.2.2.2.2.2.1) (fun z6=>(chk (nNe (nOf z3.2.2.2.2.2.2.2.2.2.2.2.2.1) (nOf z3.2.2.2.2.2.2.2.2.2.2.2.2.2)) (bnd (idx z3.1 (Int.ofNat (nOf
 z3.2.2.2.2.2.2.2.2.2.2.2.2.2))) (fun z7=>(chk (nEq (nOf z3.2.2.2.2.2.2.2.2.2.2.2.2.2) (nOf z3.2.2.2.2.2.2.2.2.2.2.2.2.2)) (chk (nEq (nOf z3.2.2.2.2.2.2.2.2.2.2.2.2.2)
 (nOf z3.2.2.2.2.2.2.2.2.2.2.2.2.2)) (some (.inl ((Aq (Aq z3.1 (nOf z3.2.2.2.2.2.2.2.2.2.2.2.2.1) (z4.1,((z4.2.1.1,(some (I3 z4.2.1.2))),((z4.2.2.1.1,(some (I3
 z4.2.2.1.2))),z4.2.2.2)))) (nOf z3.2.2.2.2.2.2.2.2.2.2.2.2.2) (z7.1,((z7.2.1.1,none),((z7.2.2.1.1,none),z7.2.2.2)))),(z5.2.1,(z5.2.2.1,(z5.2.2.2.1,(z5.2.2.2.2.1,
 (z5.2.2.2.2.2.1,(z5.2.2.2.2.2.2.1,(z5.2.2.2.2.2.2.2.1,(z5.2.2.2.2.2.2.2.2.1,(z5.2.2.2.2.2.2.2.2.2.1,(z5.2.2.2.2.2.2.2.2.2.2.1,(z5.2.2.2.2.2.2.2.2.2.2.2,(Aj .i64
 z3.2.2.2.2.2.2.2.2.2.2.2.2.1 1)))))))))))))))))))))) (some (.inl (z3.1,(z5.2.1,(z5.2.2.1,(z5.2.2.2.1,(z5.2.2.2.2.1,(z5.2.2.2.2.2.1,(z5.2.2.2.2.2.2.1,(z5.2.2.2.2.2.2.2.1,
 (z5.2.2.2.2.2.2.2.2.1,(z5.2.2.2.2.2.2.2.2.2.1,(z5.2.2.2.2.2.2.2.2.2.2.1,(z5.2.2.2.2.2.2.2.2.2.2.2,z3.2.2.2.2.2.2.2.2.2.2.2.2.1))))))))))))))))))))) (fun (z4:tqS)=>(some
 (.inl (z4.1,(z4.2.1,(z4.2.2.1,(z4.2.2.2.1,(z4.2.2.2.2.1,(z4.2.2.2.2.2.1,(z4.2.2.2.2.2.2.1,(z4.2.2.2.2.2.2.2.1,(z4.2.2.2.2.2.2.2.2.1,(z4.2.2.2.2.2.2.2.2.2.1,
 (z4.2.2.2.2.2.2.2.2.2.2.1,(z4.2.2.2.2.2.2.2.2.2.2.2.1,(z4.2.2.2.2.2.2.2.2.2.2.2.2,(Aj .i64 z3.2.2.2.2.2.2.2.2.2.2.2.2.2 1)))))))))))))))))) (some (.inr (.inl (z3.1,(z3.2.1,
 (z3.2.2.1,(z3.2.2.2.1,(z3.2.2.2.2.1,(z3.2.2.2.2.2.1,(z3.2.2.2.2.2.2.1,(z3.2.2.2.2.2.2.2.1,(z3.2.2.2.2.2.2.2.2.1,(z3.2.2.2.2.2.2.2.2.2.1,(z3.2.2.2.2.2.2.2.2.2.2.1,
 (z3.2.2.2.2.2.2.2.2.2.2.2.1,z3.2.2.2.2.2.2.2.2.2.2.2.2.1))))))))))))))))
def X3 (x:tqI):(Option tqX):=(bnd (cvL (.P .S (.P (.P (.I .i64) (.H .Y)) (.P (.P (.I .i64) (.H .Y)) (.P (.I .i64) .B)))) (.P .S (.P
 (.P (.I .i64) (.L .Y)) (.P (.P (.I .i64) (.L .Y)) (.P (.I .i64) .B)))) x.1) (fun z1=>(bnd (Zcv (z1,x.2)) (fun z2=>(cnd (iEq z2.1
 (-1)) (bnd (cvL (.P .S (.P (.P (.I .i64) (.H .Y)) (.P (.P (.I .i64) (.H .Y)) (.P (.I .i64) .B)))) (.P .S (.P (.P (.I .i64) (.L .Y)) (.P (.P (.I .i64) (.L .Y)) (.P (.I .i64)
 .B)))) x.1) (fun z3=>(some (z3,z2.2)))) (Ao (Ar (Yc x) (x.1,(z2.2.1,(z2.2.2.1,(z2.2.2.2.1,(z2.2.2.2.2.1,(z2.2.2.2.2.2.1,
 (z2.2.2.2.2.2.2.1,(z2.2.2.2.2.2.2.2.1,(z2.2.2.2.2.2.2.2.2.1,(z2.2.2.2.2.2.2.2.2.2.1,(z2.2.2.2.2.2.2.2.2.2.2.1,(z2.2.2.2.2.2.2.2.2.2.2.2,(z2.1,(Aj .i64 z2.1
 1))))))))))))))) (fun (z3:tqS)=>(chk (Cp z3.2.2.2.2.2.2.2.2.2.2.2.2 (Ae z3.1) (Ae z3.1)) (chk (nEq ((nOf z3.2.2.2.2.2.2.2.2.2.2.2.2)+((nOf (Ae z3.1))-(nOf
 z3.2.2.2.2.2.2.2.2.2.2.2.2))) z3.1.length) (chk (Cp 0 z3.2.2.2.2.2.2.2.2.2.2.2.2 (Ae (Al (A9 (nOf z3.2.2.2.2.2.2.2.2.2.2.2.2) z3.1) (Fu ((nOf (Ae z3.1))-(nOf
 z3.2.2.2.2.2.2.2.2.2.2.2.2)) ([],((0,none),((0,none),(0,false)))))))) (chk (I2 0 ((nOf z3.2.2.2.2.2.2.2.2.2.2.2.2)-0) (Al (A9 (nOf z3.2.2.2.2.2.2.2.2.2.2.2.2)
 z3.1) (Fu ((nOf (Ae z3.1))-(nOf z3.2.2.2.2.2.2.2.2.2.2.2.2)) ([],((0,none),((0,none),(0,false)))))).length) (bnd (cvL (.P .S (.P (.P (.I .i64) (.H .Y)) (.P (.P (.I
 .i64) (.H .Y)) (.P (.I .i64) .B)))) (.P .S (.P (.P (.I .i64) (.L .Y)) (.P (.P (.I .i64) (.L .Y)) (.P (.I .i64) .B)))) (A9 ((nOf z3.2.2.2.2.2.2.2.2.2.2.2.2)-0) (Al (A9
 (nOf z3.2.2.2.2.2.2.2.2.2.2.2.2) z3.1) (Fu ((nOf (Ae z3.1))-(nOf z3.2.2.2.2.2.2.2.2.2.2.2.2)) ([],((0,none),((0,none),(0,false)))))))) (fun z4=>(some (z4,
 (z3.2.1,(z3.2.2.1,(z3.2.2.2.1,(z3.2.2.2.2.1,(z3.2.2.2.2.2.1,(z3.2.2.2.2.2.2.1,(z3.2.2.2.2.2.2.2.1,(z3.2.2.2.2.2.2.2.2.1,(z3.2.2.2.2.2.2.2.2.2.1,
 (z3.2.2.2.2.2.2.2.2.2.2.1,z3.2.2.2.2.2.2.2.2.2.2.2.1)))))))))))))))))))))))))
def Zi0 (x:Za3):Za5->Option Ybj:=fun (z1:Za5)=>(cnd (iLt z1.2.2 (Ae x.1)) (Ao (bnd (idx x.1 z1.2.2) (fun z2=>(Ao (cnd
 (Ah z1.2.1) (cnd (iGe z2.1 x.2.1) (chk (A6 (z1.1.length+1) 24) (some (.inl ((Al z1.1 [x.2]),true)))) (some (.inl (z1.1,z1.2.1)))) (some (.inl (z1.1,z1.2.1)))) (fun (z3
 : Tn)=>(cnd (iNe z2.1 x.2.1) (chk (A6 (z3.1.length+1) 24) (some (.inl ((Al z3.1 [z2]),z3.2)))) (some (.inl z3))))))) (fun (z2:Tn)=>(some (.inl (z2.1,(z2.2,
 (Aj .i64 z1.2.2 1))))))) (some (.inr (.inl (z1.1,z1.2.1)))))
def T3 (x:Za3):Yb0:=(Ao (Ar (Zi0 x) ([],(false,0))) (fun (z1:Tn)=>(Ao (cnd (Ah z1.2) (chk (A6 (z1.1.length+1) 24)
 (some (.inl (Al z1.1 [x.2])))) (some (.inl z1.1))) (fun (z2:F9)=>(some z2)))))
def Zbl (x:tqF):Ybd:=(bnd (T2 x.1) (fun z1=>(bnd (Pc x.2) (fun z2=>(cnd (Ah z2) (some (z1,false)) (bnd
 (M8 x.1) (fun z3=>(cnd (Ah z3) (some (z1,false)) (Ao (cnd (iEq x.2.1 1) (bnd (cvL (.P .S (.P (.P (.I .i64) (.L .Y)) (.P (.P (.I .i64) (.L .Y)) (.P (.I
 .i64) .B)))) (.P .S (.P (.P (.I .i64) (.H .Y)) (.P (.P (.I .i64) (.H .Y)) (.P (.I .i64) .B)))) z1.1) (fun z4=>(bnd (Xg (z4,x.2.2.1)) (fun z5 =>
 (some (.inl (x.2.1,(x.2.2.1.1,(x.2.2.1.2.1.1,(x.2.2.1.2.2.1.1,(x.2.2.1.2.2.2.1,(x.2.2.1.2.2.2.2,(x.2.2.2.1,(x.2.2.2.2.1,(x.2.2.2.2.2.1,(x.2.2.2.2.2.2.1,
 (x.2.2.2.2.2.2.2,(z5,z1.2.1)))))))))))))))))) (cnd (iEq x.2.1 2) (bnd (cvL (.P .S (.P (.P (.I .i64) (.L .Y)) (.P (.P (.I .i64) (.L .Y)) (.P (.I .i64) .B)))) (.P .S (.P (.P (.I
 .i64) (.H .Y)) (.P (.P (.I .i64) (.H .Y)) (.P (.I .i64) .B)))) z1.1) (fun z4=>(bnd (X3 (z4,x.2)) (fun z5=>(some (.inl (z5.2.1,
 (z5.2.2.1,(z5.2.2.2.1,(z5.2.2.2.2.1,(z5.2.2.2.2.2.1,(z5.2.2.2.2.2.2.1,(z5.2.2.2.2.2.2.2.1,(z5.2.2.2.2.2.2.2.2.1,(z5.2.2.2.2.2.2.2.2.2.1,(z5.2.2.2.2.2.2.2.2.2.2.1,
 (z5.2.2.2.2.2.2.2.2.2.2.2,(z5.1,z1.2.1)))))))))))))))))) (cnd (iEq x.2.1 3) (some (.inl (x.2.1,(x.2.2.1.1,(x.2.2.1.2.1.1,(x.2.2.1.2.2.1.1,(x.2.2.1.2.2.2.1,
 (x.2.2.1.2.2.2.2,(x.2.2.2.1,(x.2.2.2.2.1,(x.2.2.2.2.2.1,(x.2.2.2.2.2.2.1,(x.2.2.2.2.2.2.2,(z1.1,x.2.2.2.2.1)))))))))))))) (some (.inl (x.2.1,(x.2.2.1.1,(x.2.2.1.2.1.1,
 (x.2.2.1.2.2.1.1,(x.2.2.1.2.2.2.1,(x.2.2.1.2.2.2.2,(x.2.2.2.1,(x.2.2.2.2.1,(x.2.2.2.2.2.1,(x.2.2.2.2.2.2.1,(x.2.2.2.2.2.2.2,(z1.1,z1.2.1))))))))))))))))) (fun (z4:(Int
 × ((List UInt8)×(Int×(Int×(Int×(Bool×((List UInt8)×(Int×(Int×(Int×(Int×J5))))))))))))=>(Ao (cnd (iGt z4.2.2.2.2.2.2.2.2.1 0) (bnd (T3
 (z1.2.2,(z4.2.2.2.2.2.2.2.2.1,(z4.2.2.2.2.2.2.2.2.2.1,z4.2.2.2.2.2.2.2.2.2.2.1)))) (fun z5=>(some (.inl z5)))) (some (.inl z1.2.2))) (fun (z5:F9)=>(bnd
 (M8 (z4.2.2.2.2.2.2.2.2.2.2.2.1,(z4.2.2.2.2.2.2.2.2.2.2.2.2,z5))) (fun z6=>(cnd (Ah z6) (bnd (T2 x.1) (fun z7=>(some (z7,false))))
 (some ((z4.2.2.2.2.2.2.2.2.2.2.2.1,(z4.2.2.2.2.2.2.2.2.2.2.2.2,z5)),true)))))))))))))))))
def Zcy (x:Dg):(Int)->Option O2:=fun (z3:Int)=>(cnd (iLt z3 (Ae x.1)) (bnd (idx x.1 z3) (fun z4=>(cnd (iGt (Ae z4) 120)
 (some (.inr (.inr false))) (some (.inl (Aj .i64 z3 1)))))) (some (.inr (.inl ()))))
def Zcz (x:Dg):(Int)->Option Wu:=fun (z4:Int)=>(cnd (iLt z4 (Ae x.2.1)) (bnd (idx x.2.1 z4) (fun z5=>(bnd (Cu (z5.1,(0,
 (A1 .i64 (Ae x.1) 1)))) (fun z6=>(cnd (Ah z6) (some (.inr false)) (cnd (iGt (Ae z5.2) 120) (some (.inr false)) (some (.inl (Aj .i64 z4 1))))))))) (some (.inr
 true)))
def K2 (x:Dg):Cb:=(bnd (Cu ((Ae x.1),(1,64))) (fun z1=>(cnd (Ah z1) (some false) (cnd (iGt (Ae x.2.1) 40) (some false)
 (bnd (Cu (x.2.2.1,((-1),1000))) (fun z2=>(cnd (Ah z2) (some false) (Ao (Ar (Zcy x) 0) (fun (z3:Unit)=>(Ar (Zcz x) 0))))))))))
def Tz (x:tqT):Cb:=(bnd (K2 (x.1.1,(x.1.2.1,(x.1.2.2.1,x.1.2.2.2)))) (fun z1=>(cnd z1 (cnd (iEq (Ae x.1.1) 62) (cnd (iEq (Ae
 x.1.2.1) 0) (bnd (M8 (x.2.1.1,(x.2.1.2.1,x.2.1.2.2))) (fun z2=>(cnd z2 (bnd (Cu (x.2.2.1,(1,60000))) (fun z3=>(cnd z3 (bnd (Cu
 (x.2.2.2,(0,30))) (fun z4=>(some z4))) (some false)))) (some false)))) (cnd x.1.2.2.2 (bnd (M8 (x.2.1.1,(x.2.1.2.1,x.2.1.2.2))) (fun z2=>(cnd z2
 (bnd (Cu (x.2.2.1,(1,60000))) (fun z3=>(cnd z3 (bnd (Cu (x.2.2.2,(0,30))) (fun z4=>(some z4))) (some false)))) (some false)))) (some
 false))) (some false)) (some false))))
def Ziv (x:D9):O0->Option tqC:=fun (z1:O0)=>(cnd (iLt z1.2 (Ae x.1)) (bnd (idx x.1 z1.2) (fun z2=>(bnd (Pd (z2.1,
 ((z2.2.1.1,z2.2.1.2),((z2.2.2.1.1,z2.2.2.1.2),(z2.2.2.2.1,z2.2.2.2.2))))) (fun z3=>(chk (A6 (z1.1.length+1) 152) (some (.inl ((Al z1.1 [(1,((z3.1,
 ((z3.2.1.1,z3.2.1.2),((z3.2.2.1.1,z3.2.2.1.2),(z3.2.2.2.1,z3.2.2.2.2)))),([],(0,(0,(0,0))))))]),(Aj .i64 z1.2 1))))))))) (some (.inr (.inl z1.1))))
def Ziw (x:D9):O0->Option tqC:=fun (z2:O0)=>(cnd (iLt z2.2 (Ae x.2.2)) (bnd (idx x.2.2 z2.2) (fun z3=>(chk (A6 (z2.1.length +
 1) 152) (some (.inl ((Al z2.1 [(4,(([],((0,[]),((0,[]),(0,false)))),([],(0,(z3.1,(z3.2.1,z3.2.2))))))]),(Aj .i64 z2.2 1))))))) (some (.inr (.inl z2.1))))
def Zbr (x:D9):Ybb:=(Ao (Ar (Ziv x) ([(3,(([],((0,[]),((0,[]),(0,false)))),([],(x.2.1,(0,(0,0))))))],0)) (fun (z1:M0)
 => (Ao (Ar (Ziw x) (z1,0)) (fun (z2:M0)=>(some z2)))))
def Rc (x:(Int×Int)):(Option Int):=(some (Aj .i64 (Aj .i64 2 (Md .i64 30 (Dy x.1 2))) x.2))
def Jg (x:Dd):Ff:=(bnd (F4 [x.1,[(u8 (Ak .u8 (Aw .i64 (B2 .i64 x.2 8) 255))),(u8 (Ak .u8 (Aw .i64 x.2 255)))]]) (fun z1=>(some z1)))
def M7 (x:Zh1):Ff:=(cnd (iGt (Ae x.2) 60) (bnd (F4 [x.1]) (fun z1=>(some z1))) (bnd (Jg (x.1,(Ae x.2))) (fun
 z1=>(bnd (F4 [z1,x.2]) (fun z2=>(some z2))))))
def Zih (x:Bool):(Option UInt8):=(cnd x (some (u8 1)) (some (u8 0)))
def Xc (x:Ybm):Ff:=(bnd (F4 [x.1]) (fun z1=>(bnd (K3 (x.2.1,((x.2.2.1.1,x.2.2.1.2),((x.2.2.2.1.1,x.2.2.2.1.2),
 (x.2.2.2.2.1,x.2.2.2.2.2))))) (fun z2=>(cnd (Ah z2) (some z1) (bnd (M7 (z1,x.2.1)) (fun z3=>(bnd (Zih x.2.2.2.2.2) (fun z4=>(chk (A6 (z3.length+2) 1) (Ao (cnd (iNe x.2.2.2.2.1 2) (chk (A6 ((Al z3 [(u8 (Ak .u8 x.2.2.2.2.1)),z4]).length+1) 1) (bnd (M7 ((Al (Al z3
 [(u8 (Ak .u8 x.2.2.2.2.1)),z4]) [(u8 (Ak .u8 x.2.2.1.1))]),x.2.2.1.2)) (fun z5=>(some (.inl z5))))) (some (.inl (Al z3 [(u8 (Ak .u8 x.2.2.2.2.1)),
 z4])))) (fun (z5:(List UInt8))=>(Ao (cnd (iNe x.2.2.2.2.1 1) (chk (A6 (z5.length+1) 1) (bnd (M7 ((Al z5 [(u8 (Ak .u8 x.2.2.2.1.1))]),x.2.2.2.1.2)) (fun
 z6=>(some (.inl z6))))) (some (.inl z5))) (fun (z6:(List UInt8))=>(some z6)))))))))))))))
def Zix:(Int×Int)->Option Ybw:=fun (z3:(Int×Int))=>(cnd (iLt z3.2 8) (Ao (cnd (iGt (Md .i64 z3.1 2) 65535) (some (.inl (Qe .i64 (Md .i64
 z3.1 2) 69665))) (some (.inl (Md .i64 z3.1 2)))) (fun (z4:Int)=>(some (.inl (z4,(Aj .i64 z3.2 1)))))) (some (.inr (.inl z3.1))))
def Ziy (x:(List UInt8)):(Int×Int)->Option M2:=fun (z1:(Int×Int))=>(cnd (iLt z1.2 (Ae x)) (Ao (bnd (idx x z1.2) (fun z2 =>
 (Ar (Zix) ((Qe .i64 z1.1 (Md .i64 256 (Ak .i64 (y2i z2)))),0)))) (fun (z2:Int)=>(some (.inl (z2,(Aj .i64 z1.2 1)))))) (some (.inr (.inl z1.1))))
def T1 (x:(List UInt8)):(Option Int):=(Ao (Ar (Ziy x) (65535,0)) (fun (z1:Int)=>(some (Aw .i64 z1 65535))))
def Xb (x:Ybc):Ff:=(bnd (Pc (x.2.2.1,((x.2.2.2.1.1,((x.2.2.2.1.2.1.1,x.2.2.2.1.2.1.2),((x.2.2.2.1.2.2.1.1,x.2.2.2.1.2.2.1.2),
 (x.2.2.2.1.2.2.2.1,x.2.2.2.1.2.2.2.2)))),(x.2.2.2.2.1,(x.2.2.2.2.2.1,(x.2.2.2.2.2.2.1,(x.2.2.2.2.2.2.2.1,x.2.2.2.2.2.2.2.2))))))) (fun z1=>(cnd (Ah z1) (some
 []) (bnd (M9 x.1) (fun z2=>(cnd (Ah z2) (some []) (bnd (M9 x.2.1) (fun z3=>(cnd (Ah z3) (some []) (al 2 (bnd (Jg ([],x.1)) (fun
 z4=>(bnd (Jg (z4,x.2.1)) (fun z5=>(chk (A6 (z5.length+1) 1) (Ao (cnd (iEq x.2.2.1 1) (bnd (Xc ((Al z5 [(u8 (Ak
 .u8 x.2.2.1))]),(x.2.2.2.1.1,((x.2.2.2.1.2.1.1,x.2.2.2.1.2.1.2),((x.2.2.2.1.2.2.1.1,x.2.2.2.1.2.2.1.2),(x.2.2.2.1.2.2.2.1,x.2.2.2.1.2.2.2.2)))))) (fun z6
 => (some (.inl z6)))) (cnd (iEq x.2.2.1 2) (bnd (M7 ((Al z5 [(u8 (Ak .u8 x.2.2.1))]),x.2.2.2.2.1)) (fun z6=>(some (.inl z6)))) (cnd (iEq x.2.2.1
 3) (chk (A6 ((Al z5 [(u8 (Ak .u8 x.2.2.1))]).length+1) 1) (some (.inl (Al (Al z5 [(u8 (Ak .u8 x.2.2.1))]) [(u8 (Ak .u8 x.2.2.2.2.2.1))])))) (some (.inl (Al
 z5 [(u8 (Ak .u8 x.2.2.1))])))))) (fun (z6:(List UInt8))=>(chk (A6 (z6.length+2) 1) (bnd (Jg ((Al z6 [(u8 (Ak .u8 x.2.2.2.2.2.2.1)),(u8 (Ak .u8
 x.2.2.2.2.2.2.2.2))]),x.2.2.2.2.2.2.2.1)) (fun z7=>(bnd (T1 z7) (fun z8=>(bnd (Jg (z7,z8)) (fun z9=>(some
 z9)))))))))))))))))))))))))
def Xe (x:Dg):(Option Ybr):=(cnd (iEq x.2.2.1 0) (some ((x.1,(x.2.1,((-1),true))),false)) (Ao (cnd (iGt x.2.2.1 0) (some (.inl (A1 .i64
 x.2.2.1 1))) (some (.inl x.2.2.1))) (fun (z1:Int)=>(some ((x.1,(x.2.1,(z1,x.2.2.2))),true)))))
def K4 (x:Ybp):Ws:=(bnd (L0 (x.1.1,(x.1.2.1,(x.1.2.2.1,x.1.2.2.2)))) (fun z1=>(bnd (K2 (x.1.1,(x.1.2.1,(x.1.2.2.1,
 x.1.2.2.2)))) (fun z2=>(cnd (Ah z2) (some (z1.1,(z1.2.1,(z1.2.2.1,z1.2.2.2)))) (cnd x.1.2.2.2 (some (z1.1,(z1.2.1,(z1.2.2.1,z1.2.2.2)))) (bnd (Cu
 (x.2.1,(0,(A1 .i64 (Ae x.1.1) 1)))) (fun z3=>(cnd (Ah z3) (some (z1.1,(z1.2.1,(z1.2.2.1,z1.2.2.2)))) (cnd (iGt (Ae x.2.2) 120) (some (z1.1,(z1.2.1,
 (z1.2.2.1,z1.2.2.2)))) (cnd (iEq (Ae x.1.2.1) 40) (some (z1.1,(z1.2.1,(z1.2.2.1,z1.2.2.2)))) (bnd (Xe (z1.1,(z1.2.1,(z1.2.2.1,z1.2.2.2)))) (fun z4 =>
 (Ao (cnd z4.2 (bnd (F4 [x.2.2]) (fun z5=>(chk (A6 (z4.1.2.1.length+1) 32) (some (.inl (Al z4.1.2.1 [(x.2.1,z5)])))))) (some (.inl z4.1.2.1)))
 (fun (z5:E6)=>(some (z4.1.1,(z5,(z4.1.2.2.1,z4.1.2.2.2)))))))))))))))))))
def Zc0 (z3:Ybr):Gs->Option Zpz:=fun (z4:Gs)=>(cnd (iLt z4.2 (Ae z3.1.2.1)) (bnd (idx z3.1.2.1 z4.2) (fun z5=>(bnd
 (F4 [z5.2]) (fun z6=>(bnd (idx z4.1 z5.1) (fun z7=>(some (.inl ((Aq z4.1 (nOf z5.1) z6),(Aj .i64 z4.2 1)))))))))) (some (.inr
 (.inl z4.1))))
def M6 (x:Dg):Ws:=(bnd (L0 (x.1,(x.2.1,(x.2.2.1,x.2.2.2)))) (fun z1=>(bnd (K2 (x.1,(x.2.1,(x.2.2.1,x.2.2.2))))
 (fun z2=>(cnd (Ah z2) (some (z1.1,(z1.2.1,(z1.2.2.1,z1.2.2.2)))) (cnd x.2.2.2 (some (z1.1,(z1.2.1,(z1.2.2.1,z1.2.2.2)))) (bnd (Xe (z1.1,(z1.2.1,
 (z1.2.2.1,z1.2.2.2)))) (fun z3=>(cnd (Ah z3.2) (some (z3.1.1,(z3.1.2.1,(z3.1.2.2.1,z3.1.2.2.2)))) (Ao (Ar (Zc0 z3) (z3.1.1,0)) (fun (z4:Ek)
 => (some (z4,([],(z3.1.2.2.1,z3.1.2.2.2)))))))))))))))
def W7 (x:(Int×Int)):Ff:=(bnd (Cu (x.1,(1,60000))) (fun z1=>(cnd (Ah z1) (some []) (bnd (Cu (x.2,(0,30))) (fun z2=>(cnd (Ah z2) (some []) (bnd (Jg ([],x.1)) (fun z3=>(bnd (Jg (z3,x.2)) (fun z4=>(bnd (T1 z4) (fun z5
 => (bnd (Jg (z4,z5)) (fun z6=>(some z6)))))))))))))))
def Ziz (x:tqM):Zp2->Option (Zp2 ⊕ Dg):=fun (z5:Zp2)=>(cnd (iLt z5.2.2.2.2 (Ae x.2.2)) (bnd (idx x.2.2 z5.2.2.2.2) (fun z6=>(bnd
 (Rc (x.2.1,z5.2.2.2.2)) (fun z7=>(bnd (Xb (x.2.1,(z5.2.2.2.2,z6))) (fun z8=>(bnd (K4 ((z5.1,(z5.2.1,(z5.2.2.1,
 z5.2.2.2.1))),(z7,z8))) (fun z9=>(some (.inl (z9.1,(z9.2.1,(z9.2.2.1,(z9.2.2.2,(Aj .i64 z5.2.2.2.2 1))))))))))))))) (Ls (bnd (M6 (z5.1,(z5.2.1,
 (z5.2.2.1,z5.2.2.2.1)))) (fun z6=>(bnd (W7 (x.2.1,(Ae x.2.2))) (fun z7=>(bnd (K4 (z6,((Dy x.2.1 2),z7))) (fun z8
 => (bnd (M6 z8) (fun z9=>(some z9)))))))))))
def Zbt (x:tqM):Ws:=(cnd (iLt 0 (Ae x.2.2)) (bnd (idx x.2.2 0) (fun z1=>(bnd (Rc (x.2.1,0)) (fun z2=>(bnd (Xb
 (x.2.1,(0,z1))) (fun z3=>(bnd (K4 (x.1,(z2,z3))) (fun z4=>(Ar (Ziz x) (z4.1,(z4.2.1,(z4.2.2.1,(z4.2.2.2,(Aj .i64 0
 1)))))))))))))) (bnd (M6 x.1) (fun z1=>(bnd (W7 (x.2.1,(Ae x.2.2))) (fun z2=>(bnd (K4 (z1,((Dy x.2.1 2),z2)))
 (fun z3=>(bnd (M6 z3) (fun z4=>(some z4))))))))))
def W8 (x:tqT):tqN:=(bnd (Zig x) (fun z1=>(bnd (Tz x) (fun z2=>(cnd (Ah z2) (some z1) (cnd x.1.2.2.2 (some z1)
 (cnd (iEq x.2.2.1 60000) (some z1) (bnd (Zbr x.2.1) (fun z3=>(bnd (Zbt (x.1,((Aj .i64 x.2.2.1 1),z3))) (fun z4=>(Ao (cnd (Ah z4.2.2.2)
 (some (.inl ((Aj .i64 x.2.2.1 1),(Ae z3)))) (some (.inl z1.2.2))) (fun (z5:(Int×Int))=>(some (z4,(z1.2.1,z5))))))))))))))))
def Zi1 (x:Zh1):(Int)->Option Wu:=fun (z1:Int)=>(cnd (iLt z1 (Ae x.1)) (bnd (idx x.1 z1) (fun z2=>(bnd (idx x.2 z1) (fun z3=>(cnd (iNe (y2i z2) (y2i z3)) (some (.inr false)) (some (.inl (Aj .i64 z1 1)))))))) (some (.inr true)))
def Re (x:Zh1):Cb:=(cnd (iNe (Ae x.1) (Ae x.2)) (some false) (Ar (Zi1 x) 0))
def Yc3 (x:Yby):(Int)->Option Wu:=fun (z1:Int)=>(cnd (iLt z1 (Ae x.1)) (bnd (idx x.1 z1) (fun z2=>(bnd (idx x.2 z1) (fun
 z3=>(bnd (Re (z2,z3)) (fun z4=>(cnd (Ah z4) (some (.inr false)) (some (.inl (Aj .i64 z1 1)))))))))) (some (.inr true)))
def Zbw (x:Yby):Cb:=(cnd (iNe (Ae x.1) (Ae x.2)) (some false) (Ar (Yc3 x) 0))
def Zb0 (x:Za4):Cb:=(cnd (iNe x.1.1 x.2.1) (some false) (bnd (Re (x.1.2,x.2.2)) (fun z1=>(cnd (Ah z1) (some false) (some
 true)))))
def Yc6 (x:Ybt):(Int)->Option Wu:=fun (z1:Int)=>(cnd (iLt z1 (Ae x.1)) (bnd (idx x.1 z1) (fun z2=>(bnd (idx x.2 z1) (fun z3=>(bnd (Zb0 ((z2.1,z2.2),(z3.1,z3.2))) (fun z4=>(cnd (Ah z4) (some (.inr false)) (some (.inl (Aj .i64 z1 1)))))))))) (some (.inr true)))
def Zb1 (x:Ybt):Cb:=(cnd (iNe (Ae x.1) (Ae x.2)) (some false) (Ar (Yc6 x) 0))
def T4 (x:(Dg×Dg)):Cb:=(bnd (Zbw (x.1.1,x.2.1)) (fun z1=>(cnd (Ah z1) (some false) (bnd (Zb1 (x.1.2.1,x.2.2.1))
 (fun z2=>(cnd (Ah z2) (some false) (cnd (iNe x.1.2.2.1 x.2.2.2.1) (some false) (cnd (bNe x.1.2.2.2 x.2.2.2.2) (some false) (some true)))))))))
def Xh (x:Za4):Cb:=(cnd (iNe x.1.1 x.2.1) (some false) (bnd (Re (x.1.2,x.2.2)) (fun z1=>(cnd (Ah z1) (some false) (some
 true)))))
def Xi (x:Yba):Cb:=(cnd (Ah (sEq x.1.1 x.2.1)) (some false) (bnd (Xh ((x.1.2.1.1,x.1.2.1.2),(x.2.2.1.1,x.2.2.1.2))) (fun z1 =>
 (cnd (Ah z1) (some false) (bnd (Xh ((x.1.2.2.1.1,x.1.2.2.1.2),(x.2.2.2.1.1,x.2.2.2.1.2))) (fun z2=>(cnd (Ah z2) (some false) (cnd (iNe x.1.2.2.2.1
 x.2.2.2.2.1) (some false) (cnd (bNe x.1.2.2.2.2 x.2.2.2.2.2) (some false) (some true))))))))))
def Yc5 (x:Ya8):(Int)->Option Wu:=fun (z1:Int)=>(cnd (iLt z1 (Ae x.1)) (bnd (idx x.1 z1) (fun z2=>(bnd (idx x.2 z1) (fun z3=>(bnd (Xi ((z2.1,((z2.2.1.1,z2.2.1.2),((z2.2.2.1.1,z2.2.2.1.2),(z2.2.2.2.1,z2.2.2.2.2)))),(z3.1,((z3.2.1.1,z3.2.1.2),((z3.2.2.1.1,z3.2.2.1.2),
 (z3.2.2.2.1,z3.2.2.2.2)))))) (fun z4=>(cnd (Ah z4) (some (.inr false)) (some (.inl (Aj .i64 z1 1)))))))))) (some (.inr true)))
def Zbz (x:Ya8):Cb:=(cnd (iNe (Ae x.1) (Ae x.2)) (some false) (Ar (Yc5 x) 0))
def Zbx (x:(Iw×Iw)):Cb:=(cnd (iNe x.1.1 x.2.1) (some false) (cnd (iNe x.1.2.1 x.2.2.1) (some false) (cnd (iNe x.1.2.2 x.2.2.2) (some false) (some
 true))))
def Yc4 (x:Ybu):(Int)->Option Wu:=fun (z1:Int)=>(cnd (iLt z1 (Ae x.1)) (bnd (idx x.1 z1) (fun z2=>(bnd (idx x.2 z1) (fun z3=>(bnd (Zbx ((z2.1,(z2.2.1,z2.2.2)),(z3.1,(z3.2.1,z3.2.2)))) (fun z4=>(cnd (Ah z4) (some (.inr false)) (some (.inl (Aj .i64 z1 1)))))))))) (some
 (.inr true)))
def Zby (x:Ybu):Cb:=(cnd (iNe (Ae x.1) (Ae x.2)) (some false) (Ar (Yc4 x) 0))
def Xj (x:(D9×D9)):Cb:=(bnd (Zbz (x.1.1,x.2.1)) (fun z1=>(cnd (Ah z1) (some false) (cnd (iNe x.1.2.1 x.2.2.1) (some false)
 (bnd (Zby (x.1.2.2,x.2.2.2)) (fun z2=>(cnd (Ah z2) (some false) (some true))))))))
def T5 (x:(tqT×tqT)):Cb:=(bnd (T4 ((x.1.1.1,(x.1.1.2.1,(x.1.1.2.2.1,x.1.1.2.2.2))),(x.2.1.1,(x.2.1.2.1,(x.2.1.2.2.1,x.2.1.2.2.2)))))
 (fun z1=>(cnd (Ah z1) (some false) (bnd (Xj ((x.1.2.1.1,(x.1.2.1.2.1,x.1.2.1.2.2)),(x.2.2.1.1,(x.2.2.1.2.1,x.2.2.1.2.2)))) (fun z2=>(cnd (Ah
 z2) (some false) (cnd (iNe x.1.2.2.1 x.2.2.2.1) (some false) (cnd (iNe x.1.2.2.2 x.2.2.2.2) (some false) (some true)))))))))
def Zdc:Zp6->Option (Zp6 ⊕ (Dd ⊕ Eb)):=fun (z1:Zp6)=>(cnd (iLt z1.2.2 (Ae z1.1)) (bnd (idx z1.1 z1.2.2) (fun z2=>(some (.inl
 ((Aq z1.1 (nOf z1.2.2) (u8 (Ak .u8 z1.2.1))),((Aj .i64 z1.2.1 1),(Aj .i64 z1.2.2 1))))))) (some (.inr (.inl (z1.1,z1.2.1)))))
def Pe (x:Dd):Zh0:=(Ao (Ar (Zdc) (x.1,(x.2,0))) (fun (z1:Dd)=>(chk (nEq z1.1.length x.1.length) (some (z1.2,z1.1)))))
def X7:Zp4->Option (Zp4 ⊕ (Gs ⊕ Yb3)):=fun (z1:Zp4)=>(cnd (iLt z1.2.2 (Ae z1.1)) (bnd (idx z1.1 z1.2.2) (fun z2 =>
 (bnd (idx z1.1 (Int.ofNat (nOf z1.2.2))) (fun z3=>(chk (nEq z3.length z2.length) (bnd (Pe (z2,z1.2.1)) (fun z4=>(chk (nEq z4.2.length
 z2.length) (bnd (idx z1.1 (Int.ofNat (nOf z1.2.2))) (fun z5=>(some (.inl ((Aq z1.1 (nOf z1.2.2) z4.2),(z4.1,(Aj .i64 z1.2.2 1))))))))))))))) (some (.inr
 (.inl (z1.1,z1.2.1)))))
def Zb8 (x:Gs):(Option Yb3):=(Ao (Ar (X7) (x.1,(x.2,0))) (fun (z1:Gs)=>(chk (nEq z1.1.length x.1.length) (some (z1.2,
 z1.1)))))
def Ya:Zp3->Option (Zp3 ⊕ (H9 ⊕ Yb1)):=fun (z1:Zp3)=>(cnd (iLt z1.2.2 (Ae z1.1)) (bnd (idx z1.1 z1.2.2) (fun z2=>(bnd (idx
 (Aq z1.1 (nOf z1.2.2) (z1.2.1,z2.2)) z1.2.2) (fun z3=>(bnd (idx (Aq z1.1 (nOf z1.2.2) (z1.2.1,z2.2)) (Int.ofNat (nOf z1.2.2))) (fun z4=>(chk (nEq
 z4.2.length z3.2.length) (bnd (Pe (z3.2,(Aj .i64 z1.2.1 1))) (fun z5=>(chk (nEq z5.2.length z3.2.length) (bnd (idx (Aq z1.1 (nOf z1.2.2) (z1.2.1,
 z2.2)) (Int.ofNat (nOf z1.2.2))) (fun z6=>(some (.inl ((Aq (Aq z1.1 (nOf z1.2.2) (z1.2.1,z2.2)) (nOf z1.2.2) (z6.1,z5.2)),(z5.1,(Aj .i64 z1.2.2
 1))))))))))))))))) (some (.inr (.inl (z1.1,z1.2.1)))))
def Zcd (x:H9):(Option Yb1):=(Ao (Ar (Ya) (x.1,(x.2,0))) (fun (z1:H9)=>(chk (nEq z1.1.length x.1.length) (some (z1.2,
 z1.1)))))
def Rf (x:O1):(Option Yus):=(bnd (Zb8 (x.1.1,x.2)) (fun z1=>(chk (nEq z1.2.length x.1.1.length) (bnd (Zcd (x.1.2.1,
 z1.1)) (fun z2=>(chk (nEq z2.2.length x.1.2.1.length) (chk (nEq z1.2.length x.1.1.length) (chk (nEq z2.2.length x.1.2.1.length) (some (z2.1,(z1.2,z2.2)))))))))))
def Zdd:Eb->Option (Eb ⊕ ((List UInt8) ⊕ (List UInt8))):=fun (z1:Eb)=>(cnd (iGt z1.1 0) (chk (Wj [(u8 (Ak .u8 (Aj .i64 48 (Dy z1.1
 10))))] z1.2) (some (.inl ((Zl6 .i64 z1.1 10),(Al [(u8 (Ak .u8 (Aj .i64 48 (Dy z1.1 10))))] z1.2))))) (some (.inr (.inl z1.2))))
def Xl (x:Int):Ff:=(cnd (iLe x 0) (some [109,48]) (Ao (Ar (Zdd) (x,[])) (fun (z1:(List UInt8))=>(chk (Wj [109] z1) (some
 (Al [109] z1))))))
def X9:Zp0->Option (Zp0 ⊕ (J5 ⊕ Ybo)):=fun (z1:Zp0)=>(cnd (iLt z1.2.2 (Ae z1.1)) (bnd (Xl z1.2.1) (fun z2 =>
 (bnd (idx z1.1 z1.2.2) (fun z3=>(bnd (idx (Aq z1.1 (nOf z1.2.2) (z2,((z3.2.1.1,z3.2.1.2),((z3.2.2.1.1,z3.2.2.1.2),(z3.2.2.2.1,z3.2.2.2.2))))) z1.2.2) (fun z4=>(bnd (idx (Aq (Aq z1.1 (nOf z1.2.2) (z2,((z3.2.1.1,z3.2.1.2),((z3.2.2.1.1,z3.2.2.1.2),(z3.2.2.2.1,z3.2.2.2.2))))) (nOf z1.2.2) (z4.1,(((Aj .i64 z1.2.1 1),
 z4.2.1.2),((z4.2.2.1.1,z4.2.2.1.2),(z4.2.2.2.1,z4.2.2.2.2))))) z1.2.2) (fun z5=>(bnd (idx (Aq (Aq z1.1 (nOf z1.2.2) (z2,((z3.2.1.1,z3.2.1.2),((z3.2.2.1.1,
 z3.2.2.1.2),(z3.2.2.2.1,z3.2.2.2.2))))) (nOf z1.2.2) (z4.1,(((Aj .i64 z1.2.1 1),z4.2.1.2),((z4.2.2.1.1,z4.2.2.1.2),(z4.2.2.2.1,z4.2.2.2.2))))) (Int.ofNat (nOf z1.2.2)))
 (fun z6=>(chk (nEq z6.2.1.2.length z5.2.1.2.length) (bnd (Pe (z5.2.1.2,(Aj .i64 (Aj .i64 z1.2.1 1) 1))) (fun z7=>(chk (nEq z7.2.length
 z5.2.1.2.length) (bnd (idx (Aq (Aq z1.1 (nOf z1.2.2) (z2,((z3.2.1.1,z3.2.1.2),((z3.2.2.1.1,z3.2.2.1.2),(z3.2.2.2.1,z3.2.2.2.2))))) (nOf z1.2.2) (z4.1,(((Aj .i64
 z1.2.1 1),z4.2.1.2),((z4.2.2.1.1,z4.2.2.1.2),(z4.2.2.2.1,z4.2.2.2.2))))) (Int.ofNat (nOf z1.2.2))) (fun z8=>(bnd (idx (Aq (Aq (Aq z1.1 (nOf z1.2.2) (z2,
 ((z3.2.1.1,z3.2.1.2),((z3.2.2.1.1,z3.2.2.1.2),(z3.2.2.2.1,z3.2.2.2.2))))) (nOf z1.2.2) (z4.1,(((Aj .i64 z1.2.1 1),z4.2.1.2),((z4.2.2.1.1,z4.2.2.1.2),(z4.2.2.2.1,
 z4.2.2.2.2))))) (nOf z1.2.2) (z8.1,((z8.2.1.1,z7.2),z8.2.2))) z1.2.2) (fun z9=>(bnd (idx (Aq (Aq (Aq (Aq z1.1 (nOf z1.2.2) (z2,((z3.2.1.1,z3.2.1.2),
 ((z3.2.2.1.1,z3.2.2.1.2),(z3.2.2.2.1,z3.2.2.2.2))))) (nOf z1.2.2) (z4.1,(((Aj .i64 z1.2.1 1),z4.2.1.2),((z4.2.2.1.1,z4.2.2.1.2),(z4.2.2.2.1,z4.2.2.2.2))))) (nOf
 z1.2.2) (z8.1,((z8.2.1.1,z7.2),z8.2.2))) (nOf z1.2.2) (z9.1,((z9.2.1.1,z9.2.1.2),((z7.1,z9.2.2.1.2),(z9.2.2.2.1,z9.2.2.2.2))))) z1.2.2) (fun z10=>(bnd (idx
 (Aq (Aq (Aq (Aq z1.1 (nOf z1.2.2) (z2,((z3.2.1.1,z3.2.1.2),((z3.2.2.1.1,z3.2.2.1.2),(z3.2.2.2.1,z3.2.2.2.2))))) (nOf z1.2.2) (z4.1,(((Aj .i64 z1.2.1 1),
 z4.2.1.2),((z4.2.2.1.1,z4.2.2.1.2),(z4.2.2.2.1,z4.2.2.2.2))))) (nOf z1.2.2) (z8.1,((z8.2.1.1,z7.2),z8.2.2))) (nOf z1.2.2) (z9.1,((z9.2.1.1,z9.2.1.2),((z7.1,
 z9.2.2.1.2),(z9.2.2.2.1,z9.2.2.2.2))))) (Int.ofNat (nOf z1.2.2))) (fun z11=>(chk (nEq z11.2.2.1.2.length z10.2.2.1.2.length) (bnd (Pe (z10.2.2.1.2,(Aj
 .i64 z7.1 1))) (fun z12=>(chk (nEq z12.2.length z10.2.2.1.2.length) (bnd (idx (Aq (Aq (Aq (Aq z1.1 (nOf z1.2.2) (z2,((z3.2.1.1,z3.2.1.2),((z3.2.2.1.1,
 z3.2.2.1.2),(z3.2.2.2.1,z3.2.2.2.2))))) (nOf z1.2.2) (z4.1,(((Aj .i64 z1.2.1 1),z4.2.1.2),((z4.2.2.1.1,z4.2.2.1.2),(z4.2.2.2.1,z4.2.2.2.2))))) (nOf z1.2.2) (z8.1,
 ((z8.2.1.1,z7.2),z8.2.2))) (nOf z1.2.2) (z9.1,((z9.2.1.1,z9.2.1.2),((z7.1,z9.2.2.1.2),(z9.2.2.2.1,z9.2.2.2.2))))) (Int.ofNat (nOf z1.2.2))) (fun z13=>(bnd (idx
 (Aq (Aq (Aq (Aq (Aq z1.1 (nOf z1.2.2) (z2,((z3.2.1.1,z3.2.1.2),((z3.2.2.1.1,z3.2.2.1.2),(z3.2.2.2.1,z3.2.2.2.2))))) (nOf z1.2.2) (z4.1,(((Aj .i64 z1.2.1 1),
 z4.2.1.2),((z4.2.2.1.1,z4.2.2.1.2),(z4.2.2.2.1,z4.2.2.2.2))))) (nOf z1.2.2) (z8.1,((z8.2.1.1,z7.2),z8.2.2))) (nOf z1.2.2) (z9.1,((z9.2.1.1,z9.2.1.2),((z7.1,
 z9.2.2.1.2),(z9.2.2.2.1,z9.2.2.2.2))))) (nOf z1.2.2) (z13.1,(z13.2.1,((z13.2.2.1.1,z12.2),z13.2.2.2)))) z1.2.2) (fun z14=>(bnd (idx (Aq (Aq (Aq (Aq (Aq
 (Aq z1.1 (nOf z1.2.2) (z2,((z3.2.1.1,z3.2.1.2),((z3.2.2.1.1,z3.2.2.1.2),(z3.2.2.2.1,z3.2.2.2.2))))) (nOf z1.2.2) (z4.1,(((Aj .i64 z1.2.1 1),z4.2.1.2),((z4.2.2.1.1,
 z4.2.2.1.2),(z4.2.2.2.1,z4.2.2.2.2))))) (nOf z1.2.2) (z8.1,((z8.2.1.1,z7.2),z8.2.2))) (nOf z1.2.2) (z9.1,((z9.2.1.1,z9.2.1.2),((z7.1,z9.2.2.1.2),(z9.2.2.2.1,
 z9.2.2.2.2))))) (nOf z1.2.2) (z13.1,(z13.2.1,((z13.2.2.1.1,z12.2),z13.2.2.2)))) (nOf z1.2.2) (z14.1,((z14.2.1.1,z14.2.1.2),((z14.2.2.1.1,z14.2.2.1.2),(z12.1,
 z14.2.2.2.2))))) z1.2.2) (fun z15=>(some (.inl ((Aq (Aq (Aq (Aq (Aq (Aq (Aq z1.1 (nOf z1.2.2) (z2,((z3.2.1.1,z3.2.1.2),((z3.2.2.1.1,z3.2.2.1.2),
 (z3.2.2.2.1,z3.2.2.2.2))))) (nOf z1.2.2) (z4.1,(((Aj .i64 z1.2.1 1),z4.2.1.2),((z4.2.2.1.1,z4.2.2.1.2),(z4.2.2.2.1,z4.2.2.2.2))))) (nOf z1.2.2) (z8.1,((z8.2.1.1,z7.2),
 z8.2.2))) (nOf z1.2.2) (z9.1,((z9.2.1.1,z9.2.1.2),((z7.1,z9.2.2.1.2),(z9.2.2.2.1,z9.2.2.2.2))))) (nOf z1.2.2) (z13.1,(z13.2.1,((z13.2.2.1.1,z12.2),z13.2.2.2)))) (nOf
 z1.2.2) (z14.1,((z14.2.1.1,z14.2.1.2),((z14.2.2.1.1,z14.2.2.1.2),(z12.1,z14.2.2.2.2))))) (nOf z1.2.2) (z15.1,((z15.2.1.1,z15.2.1.2),((z15.2.2.1.1,z15.2.2.1.2),
 (z15.2.2.2.1,(iEq (Dy (Aj .i64 z12.1 1) 3) 0)))))),((Aj .i64 (Aj .i64 z12.1 1) 1),(Aj .i64 z1.2.2 1))))))))))))))))))))))))))))))))))))) (some (.inr (.inl (z1.1,
 z1.2.1)))))
def Zca (x:J5):(Option Ybo):=(Ao (Ar (X9) (x.1,(x.2,0))) (fun (z1:J5)=>(chk (nEq z1.1.length x.1.length) (some (z1.2,
 z1.1)))))
def X8:Zhw->Option (Zhw ⊕ (Wt ⊕ Zp5)):=fun (z1:Zhw)=>(cnd (iLt z1.2.2 (Ae z1.1)) (bnd (idx z1.1 z1.2.2) (fun z2=>(bnd (idx
 (Aq z1.1 (nOf z1.2.2) (z1.2.1,(z2.2.1,z2.2.2))) z1.2.2) (fun z3=>(bnd (idx (Aq (Aq z1.1 (nOf z1.2.2) (z1.2.1,(z2.2.1,z2.2.2))) (nOf z1.2.2) (z3.1,((Aj
 .i64 z1.2.1 1),z3.2.2))) z1.2.2) (fun z4=>(some (.inl ((Aq (Aq (Aq z1.1 (nOf z1.2.2) (z1.2.1,(z2.2.1,z2.2.2))) (nOf z1.2.2) (z3.1,((Aj .i64 z1.2.1 1),
 z3.2.2))) (nOf z1.2.2) (z4.1,(z4.2.1,(Aj .i64 (Aj .i64 z1.2.1 1) 1)))),((Aj .i64 (Aj .i64 (Aj .i64 z1.2.1 1) 1) 1),(Aj .i64 z1.2.2 1))))))))))) (some (.inr (.inl
 (z1.1,z1.2.1)))))
def Zb9 (x:Wt):(Option Zp5):=(Ao (Ar (X8) (x.1,(x.2,0))) (fun (z1:Wt)=>(chk (nEq z1.1.length x.1.length) (some (z1.2,
 z1.1)))))
def Zcc (x:Zhs):(Option Yuo):=(bnd (Zca (x.1.1,x.2)) (fun z1=>(chk (nEq z1.2.length x.1.1.length) (bnd (Zb9 (x.1.2.2,
 z1.1)) (fun z2=>(chk (nEq z2.2.length x.1.2.2.length) (chk (nEq z1.2.length x.1.1.length) (chk (nEq z2.2.length x.1.2.2.length) (some (z2.1,(z1.2,z2.2)))))))))))
def Zcb (x:tqQ):(Option Yul):=(bnd (Rf (x.1.1,x.2)) (fun z1=>(chk (nEq z1.2.1.length x.1.1.1.length) (chk (nEq z1.2.2.length
 x.1.1.2.1.length) (bnd (Zcc (x.1.2.1,z1.1)) (fun z2=>(chk (nEq z2.2.1.length x.1.2.1.1.length) (chk (nEq z2.2.2.length x.1.2.1.2.2.length) (chk (nEq
 z1.2.1.length x.1.1.1.length) (chk (nEq z1.2.2.length x.1.1.2.1.length) (chk (nEq z2.2.1.length x.1.2.1.1.length) (chk (nEq z2.2.2.length x.1.2.1.2.2.length) (some (z2.1,
 (z1.2.1,(z1.2.2,z2.2))))))))))))))))
def Zi3 (x:Dd):(Int×Int)->Option M2:=fun (z1:(Int×Int))=>(cnd (iLt z1.2 (Ae x.1)) (bnd (idx x.1 z1.2) (fun z2=>(cnd (iNe
 (y2i z2) (y2i (u8 (Ak .u8 z1.1)))) (some (.inr (.inr (-1)))) (some (.inl ((Aj .i64 z1.1 1),(Aj .i64 z1.2 1))))))) (some (.inr (.inl z1.1))))
def Nb (x:Dd):(Option Int):=(Ao (Ar (Zi3 x) (x.2,0)) (fun (z1:Int)=>(some z1)))
def Zi2 (x:Gs):(Int×Int)->Option M2:=fun (z1:(Int×Int))=>(cnd (iLt z1.2 (Ae x.1)) (bnd (idx x.1 z1.2) (fun z2 =>
 (bnd (Nb (z2,z1.1)) (fun z3=>(cnd (iLt z3 0) (some (.inr (.inr (-1)))) (some (.inl (z3,(Aj .i64 z1.2 1))))))))) (some (.inr (.inl z1.1))))
def Zb2 (x:Gs):(Option Int):=(Ao (Ar (Zi2 x) (x.2,0)) (fun (z1:Int)=>(some z1)))
def Zdb (x:H9):(Int×Int)->Option M2:=fun (z1:(Int×Int))=>(cnd (iLt z1.2 (Ae x.1)) (bnd (idx x.1 z1.2) (fun z2=>(cnd (iNe
 z2.1 z1.1) (some (.inr (.inr (-1)))) (bnd (idx x.1 z1.2) (fun z3=>(bnd (Nb (z3.2,(Aj .i64 z1.1 1))) (fun z4=>(cnd (iLt z4 0) (some (.inr (.inr
 (-1)))) (some (.inl (z4,(Aj .i64 z1.2 1)))))))))))) (some (.inr (.inl z1.1))))
def Zb7 (x:H9):(Option Int):=(Ao (Ar (Zdb x) (x.2,0)) (fun (z1:Int)=>(some z1)))
def Zb3 (x:O1):(Option Int):=(bnd (Zb2 (x.1.1,x.2)) (fun z1=>(cnd (iLt z1 0) (some (-1)) (bnd (Zb7 (x.1.2.1,z1)) (fun
 z2=>(cnd (iLt z2 0) (some (-1)) (some z2)))))))
def Zda (x:J5):(Int×Int)->Option M2:=fun (z1:(Int×Int))=>(cnd (iLt z1.2 (Ae x.1)) (bnd (idx x.1 z1.2) (fun z2=>(bnd
 (Xl z1.1) (fun z3=>(cnd (Ah (sEq z2.1 z3)) (some (.inr (.inr (-1)))) (bnd (idx x.1 z1.2) (fun z4=>(cnd (iNe z4.2.1.1 (Aj .i64 z1.1 1))
 (some (.inr (.inr (-1)))) (bnd (idx x.1 z1.2) (fun z5=>(bnd (Nb (z5.2.1.2,(Aj .i64 (Aj .i64 z1.1 1) 1))) (fun z6=>(cnd (iLt z6 0) (some (.inr
 (.inr (-1)))) (bnd (idx x.1 z1.2) (fun z7=>(cnd (iNe z7.2.2.1.1 z6) (some (.inr (.inr (-1)))) (bnd (idx x.1 z1.2) (fun z8=>(bnd (Nb (z8.2.2.1.2,
 (Aj .i64 z6 1))) (fun z9=>(cnd (iLt z9 0) (some (.inr (.inr (-1)))) (bnd (idx x.1 z1.2) (fun z10=>(cnd (iNe z10.2.2.2.1 z9) (some (.inr (.inr (-1)))) (bnd
 (idx x.1 z1.2) (fun z11=>(cnd (bNe z11.2.2.2.2 (iEq (Dy (Aj .i64 z9 1) 3) 0)) (some (.inr (.inr (-1)))) (some (.inl ((Aj .i64 (Aj .i64 z9 1) 1),(Aj .i64
 z1.2 1))))))))))))))))))))))))))))))) (some (.inr (.inl z1.1))))
def Zb5 (x:J5):(Option Int):=(Ao (Ar (Zda x) (x.2,0)) (fun (z1:Int)=>(some z1)))
def Zc9 (x:Wt):(Int×Int)->Option M2:=fun (z1:(Int×Int))=>(cnd (iLt z1.2 (Ae x.1)) (bnd (idx x.1 z1.2) (fun z2=>(cnd (iNe
 z2.1 z1.1) (some (.inr (.inr (-1)))) (bnd (idx x.1 z1.2) (fun z3=>(cnd (iNe z3.2.1 (Aj .i64 z1.1 1)) (some (.inr (.inr (-1)))) (bnd (idx x.1 z1.2) (fun z4
 => (cnd (iNe z4.2.2 (Aj .i64 (Aj .i64 z1.1 1) 1)) (some (.inr (.inr (-1)))) (some (.inl ((Aj .i64 (Aj .i64 (Aj .i64 z1.1 1) 1) 1),(Aj .i64 z1.2 1))))))))))))) (some
 (.inr (.inl z1.1))))
def Zb4 (x:Wt):(Option Int):=(Ao (Ar (Zc9 x) (x.2,0)) (fun (z1:Int)=>(some z1)))
def Zb6 (x:Zhs):(Option Int):=(bnd (Zb5 (x.1.1,x.2)) (fun z1=>(cnd (iLt z1 0) (some (-1)) (bnd (Zb4 (x.1.2.2,z1)) (fun
 z2=>(cnd (iLt z2 0) (some (-1)) (some z2)))))))
def Xk (x:tqQ):(Option Int):=(bnd (Zb3 (x.1.1,x.2)) (fun z1=>(cnd (iLt z1 0) (some (-1)) (bnd (Zb6 (x.1.2.1,z1)) (fun z2=>(cnd (iLt z2 0) (some (-1)) (some z2)))))))
def Rj (x:((List (List UInt8))×(List (Int×(List UInt8)))×Int×Bool)×Int):Option (List UInt8):=bnd (Rq (T7 x.1) (some (C2 x.1.1 x.1.2.1 x.1.2.2.1))) fun _=>chk (decide (x.1.1.length<2^62/\x.1.2.1.length<2^62/\(∀b∈x.1.1,b.length<2^45)/\∀w∈x.1.2.1,w.2.length<2^45)) (some (Qu x.1.1 x.1.2.1 x.1.2.2.1 x.2))
def Nd (x:Dd):Iv:=(bnd (Br (x.2,(0,(A1 .i64 (Ae x.1) 2)))) (fun z1=>(cnd (Ah z1) (some (0,(0,false))) (bnd (idx x.1 x.2)
 (fun z2=>(bnd (idx x.1 (Aj .i64 x.2 1)) (fun z3=>(some ((iOr .i64 (B1 .i64 (Ak .i64 (y2i z2)) 8) (Ak .i64 (y2i z3))),((Aj .i64 x.2 2),
 true))))))))))
def Xn (x:(List UInt8)):Iv:=(bnd (Nd (x,0)) (fun z1=>(bnd (Nd (x,2)) (fun z2=>(bnd (Nd (x,4)) (fun z3=>(cnd (Ah z3.2.2) (some (0,(0,false))) (cnd (iNe (Ae x) 6) (some (0,(0,false))) (chk (Cp 0 4 (Ae x)) (bnd (Pg (A9 ((nOf 4)-0) x)) (fun z4
 => (cnd (iNe z3.1 z4) (some (0,(0,false))) (bnd (Br (z1.1,(1,60000))) (fun z5=>(cnd (Ah z5) (some (0,(0,false))) (cnd (iGt z2.1 30) (some (0,(0,
 false))) (some (z1.1,(z2.1,true)))))))))))))))))))
def E7 (x:J6):Iv:=(cnd x.2.2 (some (0,(x.2.1,true))) (cnd (iGe x.2.1 (Ae x.1)) (some (0,(x.2.1,true))) (bnd (idx x.1 (A1 .i64 (Aj .i64
 x.2.1 1) 1)) (fun z1=>(some ((Ak .i64 (y2i z1)),((Aj .i64 x.2.1 1),x.2.2)))))))
def Rl (x:J6):Iv:=(bnd (E7 (x.1,(x.2.1,x.2.2))) (fun z1=>(bnd (E7 (x.1,(z1.2.1,z1.2.2))) (fun z2=>(some
 ((iOr .i64 (B1 .i64 z1.1 8) z2.1),(z2.2.1,z2.2.2)))))))
def Zcn (x:Dd):Zhx:=(bnd (Nd (x.1,x.2)) (fun z1=>(cnd (Ah z1.2.2) (some ([],(0,false))) (cnd (iGt z1.1 60) (some ([],(0,
 false))) (cnd (iGt z1.1 (A1 .i64 (Ae x.1) z1.2.1)) (some ([],(0,false))) (chk (Cp z1.2.1 (Aj .i64 z1.2.1 z1.1) (Ae x.1)) (some ((A9 ((nOf (Aj .i64 z1.2.1
 z1.1))-(nOf z1.2.1)) (Dk (nOf z1.2.1) x.1)),((Aj .i64 z1.2.1 z1.1),true)))))))))
def L2 (x:J6):Zhx:=(bnd (Zcn (x.1,x.2.1)) (fun z1=>(cnd x.2.2 (some ([],(x.2.1,true))) (cnd (Ah z1.2.2) (some ([],(x.2.1,
 true))) (some (z1.1,(z1.2.1,x.2.2)))))))
def Ug (x:J6):Ybx:=(bnd (E7 (x.1,(x.2.1,x.2.2))) (fun z1=>(bnd (L2 (x.1,(z1.2.1,z1.2.2))) (fun z2 =>
 (some ((z1.1,z2.1),(z2.2.1,z2.2.2)))))))
def Rk (x:J6):Ybl:=(bnd (L2 (x.1,(x.2.1,x.2.2))) (fun z1=>(bnd (E7 (x.1,(z1.2.1,z1.2.2))) (fun z2 =>
 (bnd (E7 (x.1,(z2.2.1,z2.2.2))) (fun z3=>(cnd z3.2.2 (some ((z1.1,((0,[]),((0,[]),(z2.1,(iEq z3.1 1))))),(z3.2.1,true))) (Ao (cnd (Ah (iGt z3.1
 1)) (bnd (Dh (z1.1,((0,[]),((0,[]),(z2.1,(iEq z3.1 1)))))) (fun z4=>(cnd z4 (bnd (Ug (x.1,(z3.2.1,(iGt z3.1 1)))) (fun z5=>(some
 (.inl (z5.2.1,(z5.2.2,(z5.1.1,z5.1.2))))))) (some (.inl (z3.2.1,((iGt z3.1 1),(0,[])))))))) (some (.inl (z3.2.1,((iGt z3.1 1),(0,[])))))) (fun (z4:Zhy)=>(Ao (cnd
 (Ah z4.2.1) (bnd (C0 (z1.1,((z4.2.2.1,z4.2.2.2),((0,[]),(z2.1,(iEq z3.1 1)))))) (fun z5=>(cnd z5 (bnd (Ug (x.1,(z4.1,z4.2.1))) (fun z6=>(some (.inl (z6.2.1,(z6.2.2,(z6.1.1,z6.1.2))))))) (some (.inl (z4.1,(z4.2.1,(0,[])))))))) (some (.inl (z4.1,(z4.2.1,(0,[])))))) (fun (z5:Zhy)=>(some
 ((z1.1,((z4.2.2.1,z4.2.2.2),((z5.2.2.1,z5.2.2.2),(z2.1,(iEq z3.1 1))))),(z5.1,z5.2.1))))))))))))))
def T8 (x:(List UInt8)):Ya9:=(cnd (iLt (A1 .i64 (Ae x) 2) 0) (some (0,(0,((0,(([],((0,[]),((0,[]),(0,false)))),([],(0,(0,(0,0)))))),
 false)))) (chk (Cp 0 (A1 .i64 (Ae x) 2) (Ae x)) (bnd (Rl ((A9 ((nOf (A1 .i64 (Ae x) 2))-0) x),(0,false))) (fun z1=>(bnd (Rl
 ((A9 ((nOf (A1 .i64 (Ae x) 2))-0) x),(z1.2.1,z1.2.2))) (fun z2=>(bnd (E7 ((A9 ((nOf (A1 .i64 (Ae x) 2))-0) x),(z2.2.1,z2.2.2))) (fun z3=>(Ao (cnd (iEq z3.1 1) (bnd (Rk ((A9 ((nOf (A1 .i64 (Ae x) 2))-0) x),(z3.2.1,z3.2.2))) (fun z4=>(some (.inl (z4.1.1,(z4.1.2.1.1,
 (z4.1.2.1.2,(z4.1.2.2.1.1,(z4.1.2.2.1.2,(z4.1.2.2.2.1,(z4.1.2.2.2.2,([],(0,(z4.2.1,z4.2.2)))))))))))))) (cnd (iEq z3.1 2) (bnd (L2 ((A9 ((nOf (A1 .i64 (Ae
 x) 2))-0) x),(z3.2.1,z3.2.2))) (fun z4=>(some (.inl ([],(0,([],(0,([],(0,(false,(z4.1,(0,(z4.2.1,z4.2.2)))))))))))))) (cnd (iEq z3.1 3) (bnd (E7
 ((A9 ((nOf (A1 .i64 (Ae x) 2))-0) x),(z3.2.1,z3.2.2))) (fun z4=>(some (.inl ([],(0,([],(0,([],(0,(false,([],(z4.1,(z4.2.1,z4.2.2))))))))))))))
 (some (.inl ([],(0,([],(0,([],(0,(false,([],(0,(z3.2.1,z3.2.2))))))))))))))) (fun (z4:Ybi)=>(bnd (E7 ((A9 ((nOf (A1 .i64 (Ae x) 2))-0) x),
 (z4.2.2.2.2.2.2.2.2.2.1,z4.2.2.2.2.2.2.2.2.2.2))) (fun z5=>(bnd (E7 ((A9 ((nOf (A1 .i64 (Ae x) 2))-0) x),(z5.2.1,z5.2.2))) (fun z6 =>
 (bnd (Rl ((A9 ((nOf (A1 .i64 (Ae x) 2))-0) x),(z6.2.1,z6.2.2))) (fun z7=>(bnd (Nd (x,(A1 .i64 (Ae x) 2))) (fun z8=>(cnd
 z7.2.2 (some (0,(0,((0,(([],((0,[]),((0,[]),(0,false)))),([],(0,(0,(0,0)))))),false)))) (cnd (iNe z7.2.1 (A1 .i64 (Ae x) 2)) (some (0,(0,((0,(([],((0,[]),
 ((0,[]),(0,false)))),([],(0,(0,(0,0)))))),false)))) (chk (Cp 0 (A1 .i64 (Ae x) 2) (Ae x)) (bnd (Pg (A9 ((nOf (A1 .i64 (Ae x) 2))-0) x)) (fun z9=>(cnd (iNe z8.1 z9) (some (0,(0,((0,(([],((0,[]),((0,[]),(0,false)))),([],(0,(0,(0,0)))))),false)))) (bnd (Pf (z3.1,((z4.1,((z4.2.1,z4.2.2.1),
 ((z4.2.2.2.1,z4.2.2.2.2.1),(z4.2.2.2.2.2.1,z4.2.2.2.2.2.2.1)))),(z4.2.2.2.2.2.2.2.1,(z4.2.2.2.2.2.2.2.2.1,(z5.1,(z7.1,z6.1))))))) (fun z10=>(cnd (Ah z10)
 (some (0,(0,((0,(([],((0,[]),((0,[]),(0,false)))),([],(0,(0,(0,0)))))),false)))) (some (z1.1,(z2.1,((z3.1,((z4.1,((z4.2.1,z4.2.2.1),((z4.2.2.2.1,
 z4.2.2.2.2.1),(z4.2.2.2.2.2.1,z4.2.2.2.2.2.2.1)))),(z4.2.2.2.2.2.2.2.1,(z4.2.2.2.2.2.2.2.2.1,(z5.1,(z7.1,z6.1)))))),true)))))))))))))))))))))))))))))))
def Ul (x:O1):tqG->Option tqB:=fun (z1:tqG)=>(cnd (iLt z1.2.2.2.2.2.2 30) (bnd (Br (x.2,(1,60000))) (fun z2=>(cnd z2 (al 3
 (bnd (Xw (x.2,z1.2.2.2.2.2.2)) (fun z3=>(bnd (Rj (x.1,z3)) (fun z4=>(bnd (T8 z4) (fun z5=>(cnd (Ah z5.2.2.2)
 (some (.inr (.inr ((z1.2.2.2.1,(z1.2.2.2.2.1,z1.2.2.2.2.2.1)),z1.2.2.2.2.2.2)))) (cnd (iNe z5.1 x.2) (some (.inr (.inr ((z1.2.2.2.1,(z1.2.2.2.2.1,z1.2.2.2.2.2.1)),
 z1.2.2.2.2.2.2)))) (cnd (iNe z5.2.1 z1.2.2.2.2.2.2) (some (.inr (.inr ((z1.2.2.2.1,(z1.2.2.2.2.1,z1.2.2.2.2.2.1)),z1.2.2.2.2.2.2)))) (bnd (Zcj ((z1.2.2.2.1,
 (z1.2.2.2.2.1,z1.2.2.2.2.2.1)),z5.2.2.1)) (fun z6=>(cnd (Ah z6.2) (some (.inr (.inr ((z1.2.2.2.1,(z1.2.2.2.2.1,z1.2.2.2.2.2.1)),z1.2.2.2.2.2.2)))) (some (.inl
 (z1.1,(z1.2.1,(z1.2.2.1,(z6.1.1,(z6.1.2.1,(z6.1.2.2,(Aj .i64 z1.2.2.2.2.2.2 1)))))))))))))))))))))) (some (.inr (.inl (z1.1,(z1.2.1,(z1.2.2.1,(z1.2.2.2.1,
 (z1.2.2.2.2.1,z1.2.2.2.2.2.1))))))))))) (some (.inr (.inl (z1.1,(z1.2.1,(z1.2.2.1,(z1.2.2.2.1,(z1.2.2.2.2.1,z1.2.2.2.2.2.1)))))))))
def Xr (x:O1):Ybf:=(Ao (Ar (Ul x) ([],(0,([],([],(0,([],0))))))) (fun (z1:tqH)=>(bnd (Br (x.2,(1,60000))) (fun z2=>(cnd (Ah z2) (some (z1.2.2.2,0)) (some (z1.2.2.2,30)))))))
def Xo (x:tqT):tqN:=(bnd (Zin x) (fun z1=>(Ao (bnd (Uc x) (fun z2=>(cnd z2 (cnd (Ah x.1.2.2.2) (cnd (iLt x.2.2.1
 60000) (bnd (Xx (z1,(Aj .i64 x.2.2.1 1))) (fun z3=>(some (.inl z3)))) (some (.inl (z1.1.1,(z1.1.2.1,(z1.1.2.2.1,(z1.1.2.2.2,(z1.2.1.2.1,z1.2.2))))))))
 (some (.inl (z1.1.1,(z1.1.2.1,(z1.1.2.2.1,(z1.1.2.2.2,(z1.2.1.2.1,z1.2.2)))))))) (some (.inl (z1.1.1,(z1.1.2.1,(z1.1.2.2.1,(z1.1.2.2.2,(z1.2.1.2.1,z1.2.2)))))))))) (fun
 (z2:Zp1)=>(some ((z2.1,(z2.2.1,(z2.2.2.1,z2.2.2.2.1))),((z1.2.1.1,(z2.2.2.2.2.1,z1.2.1.2.2)),z2.2.2.2.2.2)))))))
def Zdg (x:Dg):tqR->Option tqA:=fun (z1:tqR)=>(cnd (iLt z1.2.2.2.2.2.2.2.2.2 2) (Ao (bnd (Rj (x,z1.2.2.2.2.2.2.2.2.2)) (fun z2=>(bnd (Xn z2) (fun z3=>(cnd (Ah z3.2.2) (some (.inl (z1.1,(z1.2.1,(z1.2.2.1,(z1.2.2.2.1,(z1.2.2.2.2.1,(z1.2.2.2.2.2.1,
 (z1.2.2.2.2.2.2.1,(z1.2.2.2.2.2.2.2.1,z1.2.2.2.2.2.2.2.2.1)))))))))) (cnd (iNe (Dy z3.1 2) z1.2.2.2.2.2.2.2.2.2) (some (.inl (z1.1,(z1.2.1,(z1.2.2.1,(z1.2.2.2.1,
 (z1.2.2.2.2.1,(z1.2.2.2.2.2.1,(z1.2.2.2.2.2.2.1,(z1.2.2.2.2.2.2.2.1,z1.2.2.2.2.2.2.2.2.1)))))))))) (cnd (iLe z3.1 z1.2.2.2.2.2.2.2.1) (some (.inl (z1.1,(z1.2.1,(z1.2.2.1,
 (z1.2.2.2.1,(z1.2.2.2.2.1,(z1.2.2.2.2.2.1,(z1.2.2.2.2.2.2.1,(z1.2.2.2.2.2.2.2.1,z1.2.2.2.2.2.2.2.2.1)))))))))) (bnd (Xr (x,z3.1)) (fun z4=>(cnd (iGe z4.2
 z3.2.1) (bnd (Ud x) (fun z5=>(some (.inl (z5.1,(z5.2.1,(z5.2.2.1,(z5.2.2.2,(z4.1.1,(z4.1.2.1,(z4.1.2.2,(z3.1,z4.2)))))))))))) (some (.inl (z1.1,
 (z1.2.1,(z1.2.2.1,(z1.2.2.2.1,(z1.2.2.2.2.1,(z1.2.2.2.2.2.1,(z1.2.2.2.2.2.2.1,(z1.2.2.2.2.2.2.2.1,z1.2.2.2.2.2.2.2.2.1)))))))))))))))))))) (fun (z2:tqU)=>(some (.inl
 (z2.1,(z2.2.1,(z2.2.2.1,(z2.2.2.2.1,(z2.2.2.2.2.1,(z2.2.2.2.2.2.1,(z2.2.2.2.2.2.2.1,(z2.2.2.2.2.2.2.2.1,(z2.2.2.2.2.2.2.2.2,(Aj .i64 z1.2.2.2.2.2.2.2.2.2
 1)))))))))))))) (some (.inr (.inl (z1.1,(z1.2.1,(z1.2.2.1,(z1.2.2.2.1,(z1.2.2.2.2.1,(z1.2.2.2.2.2.1,(z1.2.2.2.2.2.2.1,(z1.2.2.2.2.2.2.2.1,z1.2.2.2.2.2.2.2.2.1))))))))))))
def Zcp (x:Dg):tqJ:=(Ao (Ar (Zdg x) ([],([],(0,(false,([],(0,([],(0,(0,0)))))))))) (fun (z1:tqU)=>(bnd (Uc ((z1.1,
 (z1.2.1,(z1.2.2.1,z1.2.2.2.1))),((z1.2.2.2.2.1,(z1.2.2.2.2.2.1,z1.2.2.2.2.2.2.1)),z1.2.2.2.2.2.2.2))) (fun z2=>(cnd (Ah z2) (some ((([],([],(0,false))),
 (([],(0,[])),(0,0))),false)) (bnd (Xo ((z1.1,(z1.2.1,(z1.2.2.1,z1.2.2.2.1))),((z1.2.2.2.2.1,(z1.2.2.2.2.2.1,z1.2.2.2.2.2.2.1)),z1.2.2.2.2.2.2.2))) (fun z3=>(some (z3,true)))))))))
def Zc2 (x:O1):(Int)->Option ((Int) ⊕ (Unit ⊕ (List UInt8))):=fun (z3:Int)=>(cnd (iGe z3 0) (bnd (idx x.1.2.1 z3) (fun z4=>(cnd (iEq
 z4.1 x.2) (bnd (idx x.1.2.1 z3) (fun z5=>(bnd (F4 [z5.2]) (fun z6=>(some (.inr (.inr z6))))))) (some (.inl (A1 .i64 z3 1)))))) (some (.inr
 (.inl ()))))
def Tx (x:O1):Ff:=(bnd (K2 (x.1.1,(x.1.2.1,(x.1.2.2.1,x.1.2.2.2)))) (fun z1=>(cnd (Ah z1) (some []) (bnd (Cu (x.2,
 (0,(A1 .i64 (Ae x.1.1) 1)))) (fun z2=>(cnd (Ah z2) (some []) (Ao (Ar (Zc2 x) (A1 .i64 (Ae x.1.2.1) 1)) (fun (z3:Unit)=>(bnd (idx x.1.1
 x.2) (fun z4=>(bnd (F4 [z4]) (fun z5=>(some z5)))))))))))))
def W6 (x:Dd):Iv:=(cnd (iLt x.2 0) (some (0,(0,false))) (cnd (iGt x.2 (A1 .i64 (Ae x.1) 2)) (some (0,(0,false))) (bnd (idx x.1 x.2) (fun z1=>(bnd (idx x.1 (Aj .i64 x.2 1)) (fun z2=>(some ((iOr .i64 (B1 .i64 (Ak .i64 (y2i z1)) 8) (Ak .i64 (y2i z2))),((Aj .i64 x.2 2),true)))))))))
def Ic (x:J6):Iv:=(bnd (W6 (x.1,x.2.1)) (fun z1=>(cnd x.2.2 (some (0,(x.2.1,true))) (cnd (Ah z1.2.2) (some (0,(x.2.1,
 true))) (some (z1.1,(z1.2.1,x.2.2)))))))
def Na (x:J6):Yb2:=(bnd (Ic (x.1,(x.2.1,x.2.2))) (fun z1=>(cnd (Ah z1.2.2) (chk (Cp 0 x.2.1 (Ae x.1)) (bnd (T1
 (A9 ((nOf x.2.1)-0) x.1)) (fun z2=>(cnd (iEq z1.1 z2) (some ((iEq z1.2.1 (Ae x.1)),(z1.2.1,z1.2.2))) (some (false,(z1.2.1,z1.2.2))))))) (some (false,
 (z1.2.1,z1.2.2))))))
def W4 (x:(List UInt8)):Iv:=(bnd (Ic (x,(0,false))) (fun z1=>(bnd (Ic (x,(z1.2.1,z1.2.2))) (fun z2 =>
 (bnd (Na (x,(z2.2.1,z2.2.2))) (fun z3=>(cnd (Ah z3.1) (some (0,(0,false))) (bnd (Cu (z1.1,(1,60000))) (fun z4=>(cnd (Ah z4)
 (some (0,(0,false))) (bnd (Cu (z2.1,(0,30))) (fun z5=>(cnd (Ah z5) (some (0,(0,false))) (some (z1.1,(z2.1,true))))))))))))))))
def Gu (x:J6):Iv:=(cnd x.2.2 (some (0,(x.2.1,true))) (cnd (iLt x.2.1 0) (some (0,(x.2.1,true))) (cnd (iGe x.2.1 (Ae x.1)) (some (0,(x.2.1,
 true))) (bnd (idx x.1 (A1 .i64 (Aj .i64 x.2.1 1) 1)) (fun z1=>(some ((Ak .i64 (y2i z1)),((Aj .i64 x.2.1 1),x.2.2))))))))
def Zbp (x:Dd):Zhx:=(bnd (W6 (x.1,x.2)) (fun z1=>(cnd (Ah z1.2.2) (some ([],(0,false))) (cnd (iGt z1.1 60) (some ([],(0,
 false))) (cnd (iGt z1.1 (A1 .i64 (Ae x.1) z1.2.1)) (some ([],(0,false))) (chk (Cp z1.2.1 (Aj .i64 z1.2.1 z1.1) (Ae x.1)) (some ((A9 ((nOf (Aj .i64 z1.2.1
 z1.1))-(nOf z1.2.1)) (Dk (nOf z1.2.1) x.1)),((Aj .i64 z1.2.1 z1.1),true)))))))))
def L1 (x:J6):Zhx:=(bnd (Zbp (x.1,x.2.1)) (fun z1=>(cnd x.2.2 (some ([],(x.2.1,true))) (cnd (Ah z1.2.2) (some ([],(x.2.1,
 true))) (some (z1.1,(z1.2.1,x.2.2)))))))
def Jh (x:J6):Ybx:=(bnd (Gu (x.1,(x.2.1,x.2.2))) (fun z1=>(bnd (L1 (x.1,(z1.2.1,z1.2.2))) (fun z2 =>
 (some ((z1.1,z2.1),(z2.2.1,z2.2.2)))))))
def Rb (x:J6):Ybl:=(bnd (L1 (x.1,(x.2.1,x.2.2))) (fun z1=>(bnd (Gu (x.1,(z1.2.1,z1.2.2))) (fun z2 =>
 (bnd (Gu (x.1,(z2.2.1,z2.2.2))) (fun z3=>(Ao (cnd (iNe (Aw .i64 z2.1 1) 0) (bnd (Jh (x.1,(z3.2.1,z3.2.2))) (fun z4=>(some
 (.inl (z4.2.1,(z4.2.2,(z4.1.1,z4.1.2))))))) (some (.inl (z3.2.1,(z3.2.2,(0,[])))))) (fun (z4:Zhy)=>(Ao (cnd (iNe (Aw .i64 z2.1 2) 0) (bnd (Jh (x.1,
 (z4.1,z4.2.1))) (fun z5=>(some (.inl (z5.2.1,(z5.2.2,(z5.1.1,z5.1.2))))))) (some (.inl (z4.1,(z4.2.1,(0,[])))))) (fun (z5:Zhy)=>(cnd z5.2.1 (some (([],
 ((0,[]),((0,[]),(0,false)))),(z5.1,true))) (cnd (iGt z3.1 1) (some (([],((0,[]),((0,[]),(0,false)))),(z5.1,true))) (bnd (K3 (z1.1,((z4.2.2.1,z4.2.2.2),
 ((z5.2.2.1,z5.2.2.2),(z2.1,(iEq z3.1 1)))))) (fun z6=>(cnd (Ah z6) (some (([],((0,[]),((0,[]),(0,false)))),(z5.1,true))) (some ((z1.1,((z4.2.2.1,
 z4.2.2.2),((z5.2.2.1,z5.2.2.2),(z2.1,(iEq z3.1 1))))),(z5.1,z5.2.1))))))))))))))))))
def W5 (x:(List UInt8)):Ya9:=(bnd (Ic (x,(0,false))) (fun z1=>(bnd (Ic (x,(z1.2.1,z1.2.2))) (fun z2 =>
 (bnd (Gu (x,(z2.2.1,z2.2.2))) (fun z3=>(Ao (cnd (iEq z3.1 1) (bnd (Rb (x,(z3.2.1,z3.2.2))) (fun z4=>(some (.inl (z4.1.1,
 (z4.1.2.1.1,(z4.1.2.1.2,(z4.1.2.2.1.1,(z4.1.2.2.1.2,(z4.1.2.2.2.1,(z4.1.2.2.2.2,([],(0,(z4.2.1,z4.2.2)))))))))))))) (cnd (iEq z3.1 2) (bnd (L1 (x,(z3.2.1,
 z3.2.2))) (fun z4=>(some (.inl ([],(0,([],(0,([],(0,(false,(z4.1,(0,(z4.2.1,z4.2.2)))))))))))))) (cnd (iEq z3.1 3) (bnd (Gu (x,(z3.2.1,z3.2.2)))
 (fun z4=>(some (.inl ([],(0,([],(0,([],(0,(false,([],(z4.1,(z4.2.1,z4.2.2)))))))))))))) (some (.inl ([],(0,([],(0,([],(0,(false,([],(0,(z3.2.1,
 z3.2.2))))))))))))))) (fun (z4:Ybi)=>(bnd (Gu (x,(z4.2.2.2.2.2.2.2.2.2.1,z4.2.2.2.2.2.2.2.2.2.2))) (fun z5=>(bnd (Gu (x,(z5.2.1,z5.2.2)))
 (fun z6=>(bnd (Ic (x,(z6.2.1,z6.2.2))) (fun z7=>(bnd (Na (x,(z7.2.1,z7.2.2))) (fun z8=>(cnd (Ah z8.1) (some (0,(0,
 ((0,(([],((0,[]),((0,[]),(0,false)))),([],(0,(0,(0,0)))))),false)))) (bnd (Pc (z3.1,((z4.1,((z4.2.1,z4.2.2.1),((z4.2.2.2.1,z4.2.2.2.2.1),
 (z4.2.2.2.2.2.1,z4.2.2.2.2.2.2.1)))),(z4.2.2.2.2.2.2.2.1,(z4.2.2.2.2.2.2.2.2.1,(z5.1,(z7.1,z6.1))))))) (fun z9=>(cnd (Ah z9) (some (0,(0,((0,(([],((0,[]),
 ((0,[]),(0,false)))),([],(0,(0,(0,0)))))),false)))) (some (z1.1,(z2.1,((z3.1,((z4.1,((z4.2.1,z4.2.2.1),((z4.2.2.2.1,z4.2.2.2.2.1),(z4.2.2.2.2.2.1,
 z4.2.2.2.2.2.2.1)))),(z4.2.2.2.2.2.2.2.1,(z4.2.2.2.2.2.2.2.2.1,(z5.1,(z7.1,z6.1)))))),true))))))))))))))))))))))))
def Zc3 (x:O1):tqG->Option tqB:=fun (z2:tqG)=>(cnd (iLt z2.2.2.2.2.2.2 30) (al 3 (bnd (Rc (x.2,z2.2.2.2.2.2.2)) (fun z3 =>
 (bnd (Tx (x.1,z3)) (fun z4=>(bnd (W5 z4) (fun z5=>(cnd (Ah z5.2.2.2) (some (.inr (.inr ((z2.2.2.2.1,(z2.2.2.2.2.1,
 z2.2.2.2.2.2.1)),z2.2.2.2.2.2.2)))) (cnd (iNe z5.1 x.2) (some (.inr (.inr ((z2.2.2.2.1,(z2.2.2.2.2.1,z2.2.2.2.2.2.1)),z2.2.2.2.2.2.2)))) (cnd (iNe z5.2.1 z2.2.2.2.2.2.2)
 (some (.inr (.inr ((z2.2.2.2.1,(z2.2.2.2.2.1,z2.2.2.2.2.2.1)),z2.2.2.2.2.2.2)))) (bnd (Zbl ((z2.2.2.2.1,(z2.2.2.2.2.1,z2.2.2.2.2.2.1)),z5.2.2.1)) (fun z6 =>
 (cnd (Ah z6.2) (some (.inr (.inr ((z2.2.2.2.1,(z2.2.2.2.2.1,z2.2.2.2.2.2.1)),z2.2.2.2.2.2.2)))) (some (.inl (z2.1,(z2.2.1,(z2.2.2.1,(z6.1.1,(z6.1.2.1,(z6.1.2.2,(Aj
 .i64 z2.2.2.2.2.2.2 1)))))))))))))))))))))) (some (.inr (.inl (z2.1,(z2.2.1,(z2.2.2.1,(z2.2.2.2.1,(z2.2.2.2.2.1,z2.2.2.2.2.2.1)))))))))
def Xd (x:O1):Ybf:=(bnd (Cu (x.2,(1,60000))) (fun z1=>(cnd (Ah z1) (some (([],(0,[])),0)) (Ao (Ar (Zc3 x)
 ([],(0,([],([],(0,([],0))))))) (fun (z2:tqH)=>(some (z2.2.2.2,30)))))))
def Zc1 (x:Dg):tqR->Option tqA:=fun (z1:tqR)=>(cnd (iLt z1.2.2.2.2.2.2.2.2.2 2) (Ao (bnd (Tx (x,z1.2.2.2.2.2.2.2.2.2)) (fun z2=>(bnd (W4 z2) (fun z3=>(cnd (Ah z3.2.2) (some (.inl (z1.1,(z1.2.1,(z1.2.2.1,(z1.2.2.2.1,(z1.2.2.2.2.1,(z1.2.2.2.2.2.1,
 (z1.2.2.2.2.2.2.1,(z1.2.2.2.2.2.2.2.1,z1.2.2.2.2.2.2.2.2.1)))))))))) (cnd (iNe (Dy z3.1 2) z1.2.2.2.2.2.2.2.2.2) (some (.inl (z1.1,(z1.2.1,(z1.2.2.1,(z1.2.2.2.1,
 (z1.2.2.2.2.1,(z1.2.2.2.2.2.1,(z1.2.2.2.2.2.2.1,(z1.2.2.2.2.2.2.2.1,z1.2.2.2.2.2.2.2.2.1)))))))))) (cnd (iLe z3.1 z1.2.2.2.2.2.2.2.1) (some (.inl (z1.1,(z1.2.1,(z1.2.2.1,
 (z1.2.2.2.1,(z1.2.2.2.2.1,(z1.2.2.2.2.2.1,(z1.2.2.2.2.2.2.1,(z1.2.2.2.2.2.2.2.1,z1.2.2.2.2.2.2.2.2.1)))))))))) (bnd (Xd (x,z3.1)) (fun z4=>(cnd (iGe z4.2
 z3.2.1) (bnd (L0 x) (fun z5=>(some (.inl (z5.1,(z5.2.1,(z5.2.2.1,(z5.2.2.2,(z4.1.1,(z4.1.2.1,(z4.1.2.2,(z3.1,z4.2)))))))))))) (some (.inl (z1.1,
 (z1.2.1,(z1.2.2.1,(z1.2.2.2.1,(z1.2.2.2.2.1,(z1.2.2.2.2.2.1,(z1.2.2.2.2.2.2.1,(z1.2.2.2.2.2.2.2.1,z1.2.2.2.2.2.2.2.2.1)))))))))))))))))))) (fun (z2:tqU)=>(some (.inl
 (z2.1,(z2.2.1,(z2.2.2.1,(z2.2.2.2.1,(z2.2.2.2.2.1,(z2.2.2.2.2.2.1,(z2.2.2.2.2.2.2.1,(z2.2.2.2.2.2.2.2.1,(z2.2.2.2.2.2.2.2.2,(Aj .i64 z1.2.2.2.2.2.2.2.2.2
 1)))))))))))))) (some (.inr (.inl (z1.1,(z1.2.1,(z1.2.2.1,(z1.2.2.2.1,(z1.2.2.2.2.1,(z1.2.2.2.2.2.1,(z1.2.2.2.2.2.2.1,(z1.2.2.2.2.2.2.2.1,z1.2.2.2.2.2.2.2.2.1))))))))))))
def Xa (x:Dg):tqJ:=(Ao (Ar (Zc1 x) ([],([],(0,(false,([],(0,([],(0,(0,0)))))))))) (fun (z1:tqU)=>(cnd (iEq z1.2.2.2.2.2.2.2.1
 0) (some ((([],([],(0,false))),(([],(0,[])),(0,0))),false)) (bnd (Tz ((z1.1,(z1.2.1,(z1.2.2.1,z1.2.2.2.1))),((z1.2.2.2.2.1,(z1.2.2.2.2.2.1,
 z1.2.2.2.2.2.2.1)),z1.2.2.2.2.2.2.2))) (fun z2=>(cnd (Ah z2) (some ((([],([],(0,false))),(([],(0,[])),(0,0))),false)) (bnd (W8 ((z1.1,(z1.2.1,
 (z1.2.2.1,z1.2.2.2.1))),((z1.2.2.2.2.1,(z1.2.2.2.2.2.1,z1.2.2.2.2.2.2.1)),z1.2.2.2.2.2.2.2))) (fun z3=>(some (z3,true))))))))))
def Zii (x:Dg):Cb:=(bnd (Zce (x,1048576)) (fun z1=>(cnd (iLt z1 0) (some true) (bnd (Rg x) (fun z2=>(bnd
 (Zcp z2) (fun z3=>(bnd (Rg x) (fun z4=>(bnd (Xa z4) (fun z5=>(bnd (T5 (z5.1,z3.1)) (fun z6=>(cnd (Ah z6)
 (some false) (cnd (bNe z5.2 z3.2) (some false) (bnd (Rg x) (fun z7=>(bnd (T4 (z4,z7)) (fun z8=>(cnd (Ah z8) (some false) (bnd (Rf
 (z4,1)) (fun z9=>(chk (nEq z9.2.1.length z4.1.length) (chk (nEq z9.2.2.length z4.2.1.length) (cnd (iLt z9.1 0) (some false) (bnd (T5 (z5.1,z3.1)) (fun z10=>(cnd (Ah z10) (some false) (cnd (bNe z5.2 z3.2) (some false) (bnd (Zcb (z5.1,1)) (fun z11=>(chk (nEq z11.2.1.length z5.1.1.1.length) (chk (nEq
 z11.2.2.1.length z5.1.1.2.1.length) (chk (nEq z11.2.2.2.1.length z5.1.2.1.1.length) (chk (nEq z11.2.2.2.2.length z5.1.2.1.2.2.length) (bnd (Xk (((z11.2.1,(z11.2.2.1,
 z5.1.1.2.2)),((z11.2.2.2.1,(z5.1.2.1.2.1,z11.2.2.2.2)),z5.1.2.2)),1)) (fun z12=>(cnd (iLt z12 0) (some false) (cnd (iNe z12 z11.1) (some false) (bnd (Rg x)
 (fun z13=>(bnd (Xa z13) (fun z14=>(bnd (T5 (z14.1,z3.1)) (fun z15=>(cnd (Ah z15) (some false) (cnd (bNe z14.2 z3.2) (some false)
 (bnd (Xk (((z11.2.1,(z11.2.2.1,z5.1.1.2.2)),((z11.2.2.2.1,(z5.1.2.1.2.1,z11.2.2.2.2)),z5.1.2.2)),1)) (fun z16=>(cnd (iLt z16 0) (some false) (cnd (iNe
 z16 z11.1) (some false) (some true))))))))))))))))))))))))))))))))))))))))))))))))))))
end
end Go.Vs
