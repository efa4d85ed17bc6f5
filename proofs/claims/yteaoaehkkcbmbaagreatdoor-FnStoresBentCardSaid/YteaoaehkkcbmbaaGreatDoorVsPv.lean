import Derived.Test.YteaoaehkkcbmbaaGreatDoorVsW5
set_option linter.all false
namespace Go.Vs
noncomputable section
def OB:List UInt8:=[240,240,240,240,240,240,240,240,240,240,240,240,240,240,240,240,240,240,240,240,240,240,240,240,240,240,240,240,240,240,
 240,240,240,240,240,240,240,240,240,240,240,240,240,240,240,240,240,240,240,240,240,240,240,240,240,240,240,240,240,240,240,240,240,240,240,
 240,240,240,240,240,240,240,240,240,240,240,240,240,240,240,240,240,240,240,240,240,240,240,240,240,240,240,240,240,240,240,240,240,240,240,
 240,240,240,240,240,240,240,240,240,240,240,240,240,240,240,240,240,240,240,240,240,240,240,240,240,240,240,240,241,241,241,241,241,241,241,
 241,241,241,241,241,241,241,241,241,241,241,241,241,241,241,241,241,241,241,241,241,241,241,241,241,241,241,241,241,241,241,241,241,241,241,
 241,241,241,241,241,241,241,241,241,241,241,241,241,241,241,241,241,241,241,241,241,241,241,241,2,2,2,2,2,2,2,2,2,2,2,2,2,2,2,2,2,2,2,
 2,2,2,2,2,2,2,2,2,2,2,19,3,3,3,3,3,3,3,3,3,3,3,3,35,3,3,52,4,4,4,68,241,241,241,241,241,241,241,241,241,241,241]
def S5:List UInt8:=[128,191,160,191,128,159,144,191,128,143,0,0,0,0,0,0,0,0,0,0,0,0,0,0,0,0,0,0,0,0,0,0]
instance glbI:Glb:=⟨[(0,OB),(1,S5)]⟩
def al{β:Type}:Nat->Option β->Option β
 |0,e=>e
 |n+1,e=>MR e (al n e)
def MQ{β:Type}(n:Nat)(e:Option β):al n e=e:=by induction n with
 |zero=>rfl
 |succ n a=>rw[al,a,Zb]
abbrev Dx:Type:=(Option Bool)
abbrev l3:Type:=((List Int)×Int)
abbrev lZ:Type:=((List Int)×Bool)
abbrev Hu:Type:=(List (List UInt8))
abbrev I3:Type:=(Int×(Int×Int))
abbrev Zou:Type:=(Bool×(Int×Int))
abbrev lY:Type:=(Int×(Int×Bool))
abbrev Fc:Type:=((List UInt8)×Int)
abbrev Fb:Type:=(Int×(List UInt8))
abbrev Zot:Type:=(Bool×(Int×Bool))
abbrev wO:Type:=((List UInt8)×Bool)
abbrev WY:Type:=(Option (Int×Bool))
abbrev He:Type:=(Option (List UInt8))
abbrev Ls:Type:=((Int) ⊕ (Unit ⊕ Bool))
abbrev IY:Type:=(List I3)
abbrev JS:Type:=(List Fb)
abbrev NI:Type:=(Hu×Int)
abbrev dB:Type:=((Int×Int) ⊕ (Int ⊕ Int))
abbrev WX:Type:=(Int×Fb)
abbrev Pp:Type:=(Option I3)
abbrev FN:Type:=((List UInt8)×(Int×Int))
abbrev dA:Type:=(Int×Fc)
abbrev JR:Type:=((List UInt8)×(Int×Bool))
abbrev Zos:Type:=(Fb×Bool)
abbrev IX:Type:=(Option lY)
abbrev wN:Type:=(Option Zot)
abbrev Rj:Type:=(Option wO)
abbrev WW:Type:=(JS×Int)
abbrev wM:Type:=(Option IY)
abbrev Ri:Type:=(IY×Bool)
abbrev Zor:Type:=(Fb×(Int×Int))
abbrev WV:Type:=(Int×dA)
abbrev K4:Type:=(FN×Int)
abbrev cz:Type:=(Int×(Bool×Fb))
abbrev Rh:Type:=(Option FN)
abbrev wL:Type:=((List UInt8)×Fb)
abbrev wK:Type:=(Fb×(Int×Bool))
abbrev cx:Type:=(Option JR)
abbrev wJ:Type:=(Option Zos)
abbrev lX:Type:=(Int×(Int×JS))
abbrev WU:Type:=(IY×(Bool×Int))
abbrev wI:Type:=(FN×(Int×Int))
abbrev cw:Type:=(JS×(Int×Bool))
abbrev wG:Type:=(Option Zor)
abbrev cu:Type:=(Fb×Fb)
abbrev wF:Type:=(Option wK)
abbrev WT:Type:=(IY×I3)
abbrev wC:Type:=((Int×Int) ⊕ (Int ⊕ dB))
abbrev ct:Type:=(JS×(Int×(Bool×Int)))
abbrev lW:Type:=(Fc ⊕ ((List UInt8) ⊕ wO))
abbrev Ez:Type:=(Hu×cw)
abbrev Rg:Type:=(Ez×Int)
abbrev cr:Type:=(Hu×ct)
abbrev wB:Type:=(Ez×Bool)
abbrev Po:Type:=(Option Ez)
abbrev lV:Type:=((List UInt8)×(Int×((List UInt8)×(Int×JR))))
abbrev GK:Type:=((List UInt8)×(Fb×wK))
abbrev lU:Type:=(Ez×(Int×Int))
abbrev cq:Type:=(Int×(Int×Ez))
abbrev G3:Type:=(List GK)
abbrev Zoq:Type:=(GK×Int)
abbrev co:Type:=(Option GK)
abbrev lT:Type:=(Int×(Int×cr))
abbrev cn:Type:=(Hu×(JS×(Int×(Bool×I3))))
abbrev wA:Type:=(Option lU)
abbrev vz:Type:=(Ez×Fb)
abbrev Mp:Type:=(G3×Int)
abbrev vy:Type:=(Option G3)
abbrev T4:Type:=(G3×Bool)
abbrev Zop:Type:=(GK×(Int×Int))
abbrev Zoo:Type:=(GK×(Int×Bool))
abbrev vx:Type:=((List UInt8)×GK)
abbrev Zon:Type:=((List UInt8)×((Int×He)×((Int×He)×(Int×Bool))))
abbrev vw:Type:=(WV ⊕ (WX ⊕ FN))
abbrev Pn:Type:=(List Zon)
abbrev vv:Type:=(Option Zop)
abbrev vu:Type:=(Option Zoo)
abbrev vt:Type:=(Int×(Int×((List UInt8)×(Int×(Int×(Int×(Bool×((List UInt8)×(Int×I3)))))))))
abbrev cm:Type:=(Int×((List UInt8)×(Int×(Int×(Int×(Bool×((List UInt8)×(Int×(Int×I3)))))))))
abbrev Zom:Type:=(Bool×(Int×((List UInt8)×(Int×(Int×(Int×(Bool×((List UInt8)×(Int×I3)))))))))
abbrev vr:Type:=(WU ⊕ (Ri ⊕ IY))
abbrev vq:Type:=((List UInt8)×(Int×((List UInt8)×(Int×((List UInt8)×(Int×(Bool×((List UInt8)×lY))))))))
abbrev cl:Type:=(NI ⊕ (Hu ⊕ Ez))
abbrev Fm:Type:=(G3×(Int×IY))
abbrev vp:Type:=(Fm×Int)
abbrev Zol:Type:=(Fm×Bool)
abbrev vo:Type:=(Option Fm)
abbrev K3:Type:=(Int×(GK×((List UInt8)×(Int×I3))))
abbrev vm:Type:=(WW ⊕ (JS ⊕ Ez))
abbrev lS:Type:=(Ez×Ez)
abbrev lR:Type:=(Int×(Int×Fm))
abbrev ck:Type:=(Fm×(Int×Int))
abbrev vl:Type:=(Option vp)
abbrev vk:Type:=(Fm×(List UInt8))
abbrev vj:Type:=(Option Zol)
abbrev Mo:Type:=(List K3)
abbrev lQ:Type:=(Int×(Int×(G3×(Int×(IY×Int)))))
abbrev vi:Type:=(Option ck)
abbrev NH:Type:=(Mo×Int)
abbrev Zok:Type:=(K3×(Int×Int))
abbrev vh:Type:=(Int×(Int×K3))
abbrev vg:Type:=(Option Mo)
abbrev Zoj:Type:=(Int×(Int×(K3×Bool)))
abbrev vf:Type:=(Option Zok)
abbrev ve:Type:=(GK×GK)
abbrev vd:Type:=(Option Zoj)
abbrev vc:Type:=(cq ⊕ lU)
abbrev va:Type:=(T4 ⊕ G3)
abbrev cj:Type:=(Pn×GK)
abbrev v_:Type:=(G3×(Int×((List UInt8)×(Int×(Int×(Int×(Bool×((List UInt8)×(Int×I3)))))))))
abbrev lP:Type:=(G3×(Bool×(Pn×Int)))
abbrev lO:Type:=(Pn×(G3×(Bool×Int)))
abbrev Rf:Type:=(Hu×(JS×(Int×(Bool×(G3×(Int×(IY×(Int×Int))))))))
abbrev J0:Type:=(Ez×ck)
abbrev la:Type:=(Pn×cm)
abbrev T5:Type:=(Hu×(JS×(Int×(Bool×(G3×(Int×WT))))))
abbrev wZ:Type:=(J0×Int)
abbrev wY:Type:=(J0×Bool)
abbrev tqU:Type:=(Bool×J0)
abbrev Pq:Type:=(Option J0)
abbrev wX:Type:=(Ez×(Int×Mo))
abbrev l_:Type:=(Pn×(Int×((List UInt8)×(Int×(Int×(Int×(Bool×((List UInt8)×(Int×(Int×(Int×I3)))))))))))
abbrev wW:Type:=(G3×K3)
abbrev wV:Type:=(J0×(Int×Int))
abbrev l9:Type:=(Int×(Int×Rf))
abbrev dC:Type:=(Option wY)
abbrev l8:Type:=(Int×(Int×T5))
abbrev wU:Type:=(Option wV)
abbrev wT:Type:=(Pn×K3)
abbrev l7:Type:=(Fm×Fm)
abbrev l5:Type:=(G3×(Int×(IY×Fm)))
abbrev WZ:Type:=(G3×(Int×(IY×(G3×(Int×(IY×Int))))))
abbrev wS:Type:=(Fm×K3)
abbrev wR:Type:=(lR ⊕ ck)
abbrev wQ:Type:=(Mp ⊕ (G3 ⊕ Fm))
abbrev cy:Type:=(J0×K3)
abbrev cp:Type:=(NH ⊕ (Mo ⊕ Mo))
abbrev vn:Type:=(WZ ⊕ (l5 ⊕ vp))
abbrev v9:Type:=(T5 ⊕ (Rf ⊕ wY))
def R2(x:(List UInt8)):Dx:=(some (Cr (Am x) 1048576))
def YX(x:(List UInt8)):(Int×Int)->Option dB:=λ(a:(Int×Int))=>(Ab (Bb a.2 (Am x)) (Ab (Bb a.2 4000) (Aa (idx x a.2) (λb=>(some (.inl ((Bg .i64 (Au .i64 (Au .i64 (Fu .i64 a.1 137) (Az .i64 (Aj b))) 11) 1073741823),(Au .i64 a.2 1)))))) (some (.inr (.inl a.1)))) (some
 (.inr (.inl a.1))))
def Oa(x:(List UInt8)):(Option Int):=(AC (Bd (YX x) ((Au .i64 953953 (Am x)),0)) (λ(a:Int)=>(some a)))
def BU(x:I3):Dx:=(Ab (Dk x.1 x.2.1) (some (Ck x.1 x.2.2)) (some false))
def YI(x:Int):NI->Option cl:=λ(a:NI)=>(Ab (Bb a.2 x) (A3 (Bk (a.1.length+1) 24) (some (.inl ((Ax a.1 [[]]),(Au .i64
 a.2 1))))) (some (.inr (.inl a.1))))
def Ua(x:Int):Po:=(Aa (BU (x,(1,64))) (λa=>(Ab (Ap a) (some ([],([],(0,false)))) (AC (Bd (YI x) ([],
 0)) (λ(b:Hu)=>(some (b,([],((-1),false)))))))))
def M5(x:Fb):(Option Fb):=(A3 (Bk (0+x.2.length) 1) (some (x.1,(Ax [] x.2))))
def Kc(x:GK):co:=(Aa (M5 (x.2.1.1,x.2.1.2)) (λa=>(Aa (M5 (x.2.2.1.1,x.2.2.1.2)) (λb=>(some (x.1,
 ((a.1,a.2),((b.1,b.2),(x.2.2.2.1,x.2.2.2.2)))))))))
def eR(x:Fm):NH->Option cp:=λ(c:NH)=>(Ab (Bb c.2 (Am x.1)) (Aa (idx x.1 c.2) (λa=>(Aa (Kc (a.1,
 ((a.2.1.1,a.2.1.2),((a.2.2.1.1,a.2.2.1.2),(a.2.2.2.1,a.2.2.2.2))))) (λb=>(A3 (Bk (c.1.length+1) 152) (some (.inl ((Ax c.1 [(1,((b.1,
 ((b.2.1.1,b.2.1.2),((b.2.2.1.1,b.2.2.1.2),(b.2.2.2.1,b.2.2.2.2)))),([],(0,(0,(0,0))))))]),(Au .i64 c.2 1))))))))) (some (.inr (.inl c.1))))
def eT(x:Fm):NH->Option cp:=λ(a:NH)=>(Ab (Bb a.2 (Am x.2.2)) (Aa (idx x.2.2 a.2) (λb=>(Aa (idx x.2.2 a.2)
 (λc=>(Aa (idx x.2.2 a.2) (λd=>(A3 (Bk (a.1.length+1) 152) (some (.inl ((Ax a.1 [(4,(([],((0,[]),((0,[]),(0,false)))),([],(0,
 (b.1,(c.2.1,d.2.2))))))]),(Au .i64 a.2 1))))))))))) (some (.inr (.inl a.1))))
def Uk(x:Fm):vg:=(AC (Bd (eR x) ([(3,(([],((0,[]),((0,[]),(0,false)))),([],(x.2.1,(0,(0,0))))))],0)) (λ(a:Mo)
 => (AC (Bd (eT x) (a,0)) (λ(b:Mo)=>(some b)))))
def L2(x:(Int×Int)):(Option Int):=(some (Au .i64 (Au .i64 2 (Fu .i64 30 (EX x.1 2))) x.2))
def Ob(x:Fb):Dx:=(Ab (Ak x.1 0) (some (Ak (Am x.2) 0)) (some false))
def XP(x:GK):Dx:=(Ab (Dc x.1 []) (Aa (Ob (x.2.1.1,x.2.1.2)) (λa=>(Ab a (Aa (Ob (x.2.2.1.1,x.2.2.1.2)) (fun
 b=>(Ab b (Ab (Ak x.2.2.2.1 0) (some (Ap x.2.2.2.2)) (some false)) (some false)))) (some false)))) (some false))
def UR(x:(List UInt8)):(Int)->Option Ls:=λ(a:Int)=>(Ab (Bb a (Am x)) (Aa (idx x a) (λb=>(Aa (BU ((Az .i64
 (Aj b)),(97,122))) (λc=>(Ab (Ap c) (Aa (idx x a) (λd=>(Aa (BU ((Az .i64 (Aj d)),(48,57))) (λe=>(Ab (Ap
 e) (some (.inr (.inr false))) (some (.inl (Au .i64 a 1)))))))) (some (.inl (Au .i64 a 1)))))))) (some (.inr (.inl ()))))
def P8(x:(List UInt8)):Dx:=(AC (Bd (UR x) 0) (λ(b:Unit)=>(Aa (BU ((Am x),(1,6))) (λa=>(some a)))))
def Ea(x:GK):Dx:=(some (Ak (Bg .i64 x.2.2.2.1 1) 1))
def Df(x:GK):Dx:=(some (Ak (Bg .i64 x.2.2.2.1 2) 2))
def PG(x:Int):Dx:=(Aa (BU (x,(0,5))) (λa=>(some a)))
def M0(x:Fb):Dx:=(Aa (PG x.1) (λa=>(Ab a (some (Ck (Am x.2) 20)) (some false))))
def XW(x:UInt8):(Option Int):=(Ab (Bb (Aj x) (Aj (u8 128))) (some 1) (Aa (BU ((Az .i64 (Aj x)),(194,223))) (λa=>(Ab a
 (some 2) (Aa (BU ((Az .i64 (Aj x)),(224,239))) (λb=>(Ab b (some 3) (Aa (BU ((Az .i64 (Aj x)),(240,244))) (λc=>(Ab c
 (some 4) (some 0)))))))))))
def PB(x:Int):Dx:=(Aa (BU (x,(0,1114111))) (λa=>(Ab a (Aa (BU (x,(55296,57343))) (λb=>(some (Ap
 b)))) (some false))))
def M2(x:Fc):He:=(A3 (Bk (0+x.1.length) 1) (Aa (PB x.2) (λa=>(Ab (Ap a) (some (Ax [] x.1)) (Ab (Ck x.2 127)
 (A3 (Bk ((Ax [] x.1).length+1) 1) (some (Ax (Ax [] x.1) [(u8 (Az .u8 x.2))]))) (Ab (Ck x.2 2047) (A3 (Bk ((Ax [] x.1).length+2) 1) (some (Ax (Ax []
 x.1) [(u8 (Az .u8 (BM .i64 192 (Cl .i64 x.2 6)))),(u8 (Az .u8 (BM .i64 128 (Bg .i64 x.2 63))))]))) (Ab (Ck x.2 65535) (A3 (Bk ((Ax [] x.1).length+3) 1)
 (some (Ax (Ax [] x.1) [(u8 (Az .u8 (BM .i64 224 (Cl .i64 x.2 12)))),(u8 (Az .u8 (BM .i64 128 (Bg .i64 (Cl .i64 x.2 6) 63)))),(u8 (Az .u8 (BM .i64 128
 (Bg .i64 x.2 63))))]))) (A3 (Bk ((Ax [] x.1).length+4) 1) (some (Ax (Ax [] x.1) [(u8 (Az .u8 (BM .i64 240 (Cl .i64 x.2 18)))),(u8 (Az .u8 (BM .i64 128
 (Bg .i64 (Cl .i64 x.2 12) 63)))),(u8 (Az .u8 (BM .i64 128 (Bg .i64 (Cl .i64 x.2 6) 63)))),(u8 (Az .u8 (BM .i64 128 (Bg .i64 x.2 63))))]))))))))))
def MN(x:Fc)(b:Int):(Int×Int)->Option ((Int×Int) ⊕ (Int ⊕ lY)):=λ(a:(Int×Int))=>(Ab (Bb a.2 b) (Aa (idx x.1 (Au .i64
 x.2 a.2)) (λc=>(Ab (AI (Aj (u8 (Bg .u8 (Aj c) (Aj (u8 192))))) (Aj (u8 128))) (some (.inr (.inr (0,(0,false))))) (Aa (idx x.1 (Au .i64 x.2 a.2))
 (λd=>(some (.inl ((BM .i64 (C9 .i64 a.1 6) (Az .i64 (Aj (u8 (Bg .u8 (Aj d) (Aj (u8 63))))))),(Au .i64 a.2 1))))))))) (some (.inr (.inl a.1))))
def Ug(x:Fc):IX:=(Aa (BU (x.2,(0,(Br .i64 (Am x.1) 1)))) (λd=>(Ab (Ap d) (some (0,(0,false))) (Aa (idx x.1 x.2)
 (λe=>(Aa (XW e) (λa=>(Ab (Ak a 0) (some (0,(0,false))) (Ab (Cr a (Br .i64 (Am x.1) x.2)) (some (0,(0,false))) (Aa (idx x.1
 x.2) (λc=>(AC (Ab (Cr a 1) (A3 (Ck 0 (Az .u64 a)) (some (.inl (Bg .i64 (Az .i64 (Aj c)) (Cl .i64 127 (Az .u64 a)))))) (some (.inl (Az
 .i64 (Aj c))))) (λ(f:Int)=>(AC (Bd (MN x a) (f,1)) (λ(b:Int)=>(Aa (PB b) (λg=>(Ab (Ap g) (some (0,(0,false)))
 (Aa (M2 ([],b)) (λh=>(A3 (De x.2 (Au .i64 x.2 a) (Am x.1)) (Ab (Ap (Dc h (BA ((A9 (Au .i64 x.2 a))-(A9 x.2)) (E9
 (A9 x.2) x.1)))) (some (0,(0,false))) (some (b,((Au .i64 x.2 a),true)))))))))))))))))))))))))
def XK(x:(Int×Int)):WY:=(Ab (Ak x.1 164) (Aa (BU (x.2,(161,243))) (λa=>(Ab a (some ((Br .i64 (Au .i64 12353 x.2)
 161),true)) (Ab (Ak x.1 165) (Aa (BU (x.2,(161,246))) (λb=>(Ab b (some ((Br .i64 (Au .i64 12449 x.2) 161),true)) (some (0,false))))) (some (0,
 false)))))) (Ab (Ak x.1 165) (Aa (BU (x.2,(161,246))) (λa=>(Ab a (some ((Br .i64 (Au .i64 12449 x.2) 161),true)) (some (0,false))))) (some (0,
 false))))
def XH(x:Fc):IX:=(Aa (BU (x.2,(0,(Br .i64 (Am x.1) 1)))) (λc=>(Ab (Ap c) (some (0,(0,false))) (Aa (idx x.1 x.2)
 (λd=>(Ab (Bb (Aj d) (Aj (u8 128))) (Aa (idx x.1 x.2) (λa=>(some ((Az .i64 (Aj a)),((Au .i64 x.2 1),true))))) (Ab (Dk (Au .i64
 x.2 1) (Am x.1)) (some (0,(0,false))) (Aa (idx x.1 x.2) (λa=>(Aa (idx x.1 (Au .i64 x.2 1)) (λe=>(Aa (XK ((Az .i64 (Aj a)),
 (Az .i64 (Aj e)))) (λb=>(Ab (Ap b.2) (some (0,(0,false))) (some (b.1,((Au .i64 x.2 2),true)))))))))))))))))
def mM(x:Int):(Option Int):=(Ab (Ak x 164) (some 8364) (Ab (Ak x 166) (some 352) (Ab (Ak x 168) (some 353) (Ab (Ak x 180) (some 381) (Ab (Ak
 x 184) (some 382) (Ab (Ak x 188) (some 338) (Ab (Ak x 189) (some 339) (Ab (Ak x 190) (some 376) (some x)))))))))
def mL(x:Int):(Option Int):=(Ab (Dk x 224) (Aa (idx [1102,1072,1073,1094,1076,1077,1092,1075,1093,1080,1081,1082,1083,1084,1085,1086,
 1087,1103,1088,1089,1090,1091,1078,1074,1100,1099,1079,1096,1101,1097,1095,1098] (Br .i64 x 224)) (λa=>(some (Br .i64 a 32)))) (Ab (Dk x 192)
 (Aa (idx [1102,1072,1073,1094,1076,1077,1092,1075,1093,1080,1081,1082,1083,1084,1085,1086,1087,1103,1088,1089,1090,1091,1078,1074,1100,1099,1079,1096,
 1101,1097,1095,1098] (Br .i64 x 192)) (λa=>(some a))) (Ab (Ak x 163) (some 1105) (Ab (Ak x 179) (some 1025) (some (-1))))))
def mN(x:Int):(Option Int):=(Ab (Dk x 160) (some x) (Aa (idx [8364,(-1),8218,402,8222,8230,8224,8225,710,8240,352,8249,338,(-1),381,
 (-1),(-1),8216,8217,8220,8221,8226,8211,8212,732,8482,353,8250,339,(-1),382,376] (Br .i64 x 128)) (λa=>(some a))))
def KD(x:(Int×Int)):WY:=(Aa (BU (x.1,(1,4))) (λb=>(Ab (Ap b) (some (0,false)) (Aa (BU (x.2,(0,255))) (fun
 c=>(Ab (Ap c) (some (0,false)) (AC (Ab (Dk x.2 128) (Ab (Ak x.1 2) (Aa (mM x.2) (λa=>(some (.inl a)))) (Ab (Ak x.1 3) (Aa
 (mL x.2) (λa=>(some (.inl a)))) (Ab (Ak x.1 4) (Aa (mN x.2) (λa=>(some (.inl a)))) (some (.inl x.2))))) (some (.inl x.2))) (λ(a
 : Int)=>(Ab (Bb a 0) (some (0,false)) (some (a,true)))))))))))
def Yb(x:dA):IX:=(Ab (Ak x.1 0) (Aa (Ug (x.2.1,x.2.2)) (λa=>(some (a.1,(a.2.1,a.2.2))))) (Ab (Ak x.1 5) (Aa
 (XH (x.2.1,x.2.2)) (λa=>(some (a.1,(a.2.1,a.2.2))))) (Aa (idx x.2.1 x.2.2) (λa=>(Aa (KD (x.1,(Az .i64 (Aj a))))
 (λb=>(some (b.1,((Au .i64 x.2.2 1),b.2)))))))))
def eP(x:Fb):Fc->Option lW:=λ(a:Fc)=>(Ab (Bb a.2 (Am x.2)) (Aa (Yb (x.1,(x.2,a.2))) (λb=>(Ab (Ap
 b.2.2) (some (.inr (.inr ([],false)))) (Aa (M2 (a.1,b.1)) (λc=>(some (.inl (c,b.2.1)))))))) (some (.inr (.inl a.1))))
def X8(x:Fb):Rj:=(Aa (PG x.1) (λa=>(Ab (Ap a) (some ([],false)) (AC (Bd (eP x) ([],0)) (λ(b:(List
 UInt8))=>(some (b,true)))))))
def I6(x:Fb):Rj:=(Aa (M0 (x.1,x.2)) (λb=>(Ab (Ap b) (some ([],false)) (Aa (X8 (x.1,x.2)) (λa
 => (some (a.1,a.2)))))))
def Cz(x:cu):Dx:=(Aa (I6 (x.1.1,x.1.2)) (λa=>(Aa (I6 (x.2.1,x.2.2)) (λb=>(Ab a.2 (Ab
 b.2 (some (Dc a.1 b.1)) (some false)) (some false))))))
def J6(x:GK):Dx:=(Aa (P8 x.1) (λm=>(Ab (Ap m) (some false) (Aa (BU (x.2.2.2.1,(1,3))) (λn=>(Ab
 (Ap n) (some false) (Aa (Ea (x.1,((x.2.1.1,x.2.1.2),((x.2.2.1.1,x.2.2.1.2),(x.2.2.2.1,x.2.2.2.2))))) (λo=>(Ab (Ap o) (Aa (Ob
 (x.2.1.1,x.2.1.2)) (λl=>(Ab (Ap l) (some false) (Aa (Df (x.1,((x.2.1.1,x.2.1.2),((x.2.2.1.1,x.2.2.1.2),(x.2.2.2.1,x.2.2.2.2))))) (λj=>(Ab (Ap j) (Aa (Ob (x.2.2.1.1,x.2.2.1.2)) (λg=>(Ab (Ap g) (some false) (Aa (I6 (x.2.1.1,x.2.1.2)) (λh=>(Aa
 (I6 (x.2.2.1.1,x.2.2.1.2)) (λi=>(Aa (Ea (x.1,((x.2.1.1,x.2.1.2),((x.2.2.1.1,x.2.2.1.2),(x.2.2.2.1,x.2.2.2.2))))) (λf=>(Ab
 f (Aa (BU (x.2.1.1,(1,5))) (λd=>(Ab (Ap d) (some false) (Aa (M0 (x.2.1.1,x.2.1.2)) (λa=>(Ab (Ap a) (some false) (Aa
 (Df (x.1,((x.2.1.1,x.2.1.2),((x.2.2.1.1,x.2.2.1.2),(x.2.2.2.1,x.2.2.2.2))))) (λb=>(Ab b (Ab (AI x.2.2.1.1 0) (some false) (Ab (Ap i.2) (some
 false) (Aa (Ea (x.1,((x.2.1.1,x.2.1.2),((x.2.2.1.1,x.2.2.1.2),(x.2.2.2.1,x.2.2.2.2))))) (λc=>(Ab c (Ab (Ap h.2) (Ab (Ap x.2.2.2.2) (some
 false) (Aa (Df (x.1,((x.2.1.1,x.2.1.2),((x.2.2.1.1,x.2.2.1.2),(x.2.2.2.1,x.2.2.2.2))))) (λe=>(Ab e (some false) (Ab (AI x.2.2.2.1 3) (some
 true) (Aa (Cz ((x.2.1.1,x.2.1.2),(x.2.2.1.1,x.2.2.1.2))) (λk=>(some k)))))))) (Ab (AI x.2.2.2.1 3) (some true) (Aa (Cz ((x.2.1.1,
 x.2.1.2),(x.2.2.1.1,x.2.2.1.2))) (λe=>(some e))))) (Ab (AI x.2.2.2.1 3) (some true) (Aa (Cz ((x.2.1.1,x.2.1.2),(x.2.2.1.1,x.2.2.1.2))) (fun
 e=>(some e))))))))) (Aa (Ea (x.1,((x.2.1.1,x.2.1.2),((x.2.2.1.1,x.2.2.1.2),(x.2.2.2.1,x.2.2.2.2))))) (λc=>(Ab c (Ab (Ap h.2)
 (Ab (Ap x.2.2.2.2) (some false) (Aa (Df (x.1,((x.2.1.1,x.2.1.2),((x.2.2.1.1,x.2.2.1.2),(x.2.2.2.1,x.2.2.2.2))))) (λe=>(Ab e (some false) (Ab
 (AI x.2.2.2.1 3) (some true) (Aa (Cz ((x.2.1.1,x.2.1.2),(x.2.2.1.1,x.2.2.1.2))) (λk=>(some k)))))))) (Ab (AI x.2.2.2.1 3) (some true) (Aa
 (Cz ((x.2.1.1,x.2.1.2),(x.2.2.1.1,x.2.2.1.2))) (λe=>(some e))))) (Ab (AI x.2.2.2.1 3) (some true) (Aa (Cz ((x.2.1.1,x.2.1.2),
 (x.2.2.1.1,x.2.2.1.2))) (λe=>(some e)))))))))))))))) (Aa (Df (x.1,((x.2.1.1,x.2.1.2),((x.2.2.1.1,x.2.2.1.2),(x.2.2.2.1,x.2.2.2.2))))) (λd=>(Ab d (Ab (AI x.2.2.1.1 0) (some false) (Ab (Ap i.2) (some false) (Aa (Ea (x.1,((x.2.1.1,x.2.1.2),((x.2.2.1.1,x.2.2.1.2),(x.2.2.2.1,x.2.2.2.2)))))
 (λa=>(Ab a (Ab (Ap h.2) (Ab (Ap x.2.2.2.2) (some false) (Aa (Df (x.1,((x.2.1.1,x.2.1.2),((x.2.2.1.1,x.2.2.1.2),(x.2.2.2.1,x.2.2.2.2)))))
 (λb=>(Ab b (some false) (Ab (AI x.2.2.2.1 3) (some true) (Aa (Cz ((x.2.1.1,x.2.1.2),(x.2.2.1.1,x.2.2.1.2))) (λc=>(some
 c)))))))) (Ab (AI x.2.2.2.1 3) (some true) (Aa (Cz ((x.2.1.1,x.2.1.2),(x.2.2.1.1,x.2.2.1.2))) (λb=>(some b))))) (Ab (AI x.2.2.2.1 3) (some
 true) (Aa (Cz ((x.2.1.1,x.2.1.2),(x.2.2.1.1,x.2.2.1.2))) (λb=>(some b))))))))) (Aa (Ea (x.1,((x.2.1.1,x.2.1.2),((x.2.2.1.1,x.2.2.1.2),
 (x.2.2.2.1,x.2.2.2.2))))) (λa=>(Ab a (Ab (Ap h.2) (Ab (Ap x.2.2.2.2) (some false) (Aa (Df (x.1,((x.2.1.1,x.2.1.2),((x.2.2.1.1,x.2.2.1.2),
 (x.2.2.2.1,x.2.2.2.2))))) (λb=>(Ab b (some false) (Ab (AI x.2.2.2.1 3) (some true) (Aa (Cz ((x.2.1.1,x.2.1.2),(x.2.2.1.1,x.2.2.1.2))) (fun
 c=>(some c)))))))) (Ab (AI x.2.2.2.1 3) (some true) (Aa (Cz ((x.2.1.1,x.2.1.2),(x.2.2.1.1,x.2.2.1.2))) (λb=>(some b))))) (Ab
 (AI x.2.2.2.1 3) (some true) (Aa (Cz ((x.2.1.1,x.2.1.2),(x.2.2.1.1,x.2.2.1.2))) (λb=>(some b)))))))))))))))))))) (Aa (I6 (x.2.1.1,
 x.2.1.2)) (λg=>(Aa (I6 (x.2.2.1.1,x.2.2.1.2)) (λh=>(Aa (Ea (x.1,((x.2.1.1,x.2.1.2),((x.2.2.1.1,x.2.2.1.2),(x.2.2.2.1,
 x.2.2.2.2))))) (λi=>(Ab i (Aa (BU (x.2.1.1,(1,5))) (λf=>(Ab (Ap f) (some false) (Aa (M0 (x.2.1.1,x.2.1.2)) (λd=>(Ab (Ap d) (some false) (Aa (Df (x.1,((x.2.1.1,x.2.1.2),((x.2.2.1.1,x.2.2.1.2),(x.2.2.2.1,x.2.2.2.2))))) (λa=>(Ab a (Ab (AI
 x.2.2.1.1 0) (some false) (Ab (Ap h.2) (some false) (Aa (Ea (x.1,((x.2.1.1,x.2.1.2),((x.2.2.1.1,x.2.2.1.2),(x.2.2.2.1,x.2.2.2.2))))) (λb=>(Ab
 b (Ab (Ap g.2) (Ab (Ap x.2.2.2.2) (some false) (Aa (Df (x.1,((x.2.1.1,x.2.1.2),((x.2.2.1.1,x.2.2.1.2),(x.2.2.2.1,x.2.2.2.2))))) (λc=>(Ab
 c (some false) (Ab (AI x.2.2.2.1 3) (some true) (Aa (Cz ((x.2.1.1,x.2.1.2),(x.2.2.1.1,x.2.2.1.2))) (λe=>(some e)))))))) (Ab (AI x.2.2.2.1 3)
 (some true) (Aa (Cz ((x.2.1.1,x.2.1.2),(x.2.2.1.1,x.2.2.1.2))) (λc=>(some c))))) (Ab (AI x.2.2.2.1 3) (some true) (Aa (Cz ((x.2.1.1,
 x.2.1.2),(x.2.2.1.1,x.2.2.1.2))) (λc=>(some c))))))))) (Aa (Ea (x.1,((x.2.1.1,x.2.1.2),((x.2.2.1.1,x.2.2.1.2),(x.2.2.2.1,x.2.2.2.2))))) (fun
 b=>(Ab b (Ab (Ap g.2) (Ab (Ap x.2.2.2.2) (some false) (Aa (Df (x.1,((x.2.1.1,x.2.1.2),((x.2.2.1.1,x.2.2.1.2),(x.2.2.2.1,x.2.2.2.2))))) (fun
 c=>(Ab c (some false) (Ab (AI x.2.2.2.1 3) (some true) (Aa (Cz ((x.2.1.1,x.2.1.2),(x.2.2.1.1,x.2.2.1.2))) (λe=>(some e))))))))
 (Ab (AI x.2.2.2.1 3) (some true) (Aa (Cz ((x.2.1.1,x.2.1.2),(x.2.2.1.1,x.2.2.1.2))) (λc=>(some c))))) (Ab (AI x.2.2.2.1 3) (some true) (Aa
 (Cz ((x.2.1.1,x.2.1.2),(x.2.2.1.1,x.2.2.1.2))) (λc=>(some c)))))))))))))))) (Aa (Df (x.1,((x.2.1.1,x.2.1.2),((x.2.2.1.1,x.2.2.1.2),
 (x.2.2.2.1,x.2.2.2.2))))) (λf=>(Ab f (Ab (AI x.2.2.1.1 0) (some false) (Ab (Ap h.2) (some false) (Aa (Ea (x.1,((x.2.1.1,x.2.1.2),((x.2.2.1.1,
 x.2.2.1.2),(x.2.2.2.1,x.2.2.2.2))))) (λd=>(Ab d (Ab (Ap g.2) (Ab (Ap x.2.2.2.2) (some false) (Aa (Df (x.1,((x.2.1.1,x.2.1.2),((x.2.2.1.1,
 x.2.2.1.2),(x.2.2.2.1,x.2.2.2.2))))) (λa=>(Ab a (some false) (Ab (AI x.2.2.2.1 3) (some true) (Aa (Cz ((x.2.1.1,x.2.1.2),(x.2.2.1.1,
 x.2.2.1.2))) (λb=>(some b)))))))) (Ab (AI x.2.2.2.1 3) (some true) (Aa (Cz ((x.2.1.1,x.2.1.2),(x.2.2.1.1,x.2.2.1.2))) (λa=>(some
 a))))) (Ab (AI x.2.2.2.1 3) (some true) (Aa (Cz ((x.2.1.1,x.2.1.2),(x.2.2.1.1,x.2.2.1.2))) (λa=>(some a))))))))) (Aa (Ea (x.1,
 ((x.2.1.1,x.2.1.2),((x.2.2.1.1,x.2.2.1.2),(x.2.2.2.1,x.2.2.2.2))))) (λd=>(Ab d (Ab (Ap g.2) (Ab (Ap x.2.2.2.2) (some false) (Aa (Df (x.1,
 ((x.2.1.1,x.2.1.2),((x.2.2.1.1,x.2.2.1.2),(x.2.2.2.1,x.2.2.2.2))))) (λa=>(Ab a (some false) (Ab (AI x.2.2.2.1 3) (some true) (Aa (Cz
 ((x.2.1.1,x.2.1.2),(x.2.2.1.1,x.2.2.1.2))) (λb=>(some b)))))))) (Ab (AI x.2.2.2.1 3) (some true) (Aa (Cz ((x.2.1.1,x.2.1.2),(x.2.2.1.1,
 x.2.2.1.2))) (λa=>(some a))))) (Ab (AI x.2.2.2.1 3) (some true) (Aa (Cz ((x.2.1.1,x.2.1.2),(x.2.2.1.1,x.2.2.1.2))) (λa=>(some
 a))))))))))))))))))))))) (Aa (Df (x.1,((x.2.1.1,x.2.1.2),((x.2.2.1.1,x.2.2.1.2),(x.2.2.2.1,x.2.2.2.2))))) (λl=>(Ab (Ap l) (Aa (Ob
 (x.2.2.1.1,x.2.2.1.2)) (λj=>(Ab (Ap j) (some false) (Aa (I6 (x.2.1.1,x.2.1.2)) (λg=>(Aa (I6 (x.2.2.1.1,x.2.2.1.2)) (fun
 h=>(Aa (Ea (x.1,((x.2.1.1,x.2.1.2),((x.2.2.1.1,x.2.2.1.2),(x.2.2.2.1,x.2.2.2.2))))) (λi=>(Ab i (Aa (BU (x.2.1.1,(1,5))) (fun
 f=>(Ab (Ap f) (some false) (Aa (M0 (x.2.1.1,x.2.1.2)) (λd=>(Ab (Ap d) (some false) (Aa (Df (x.1,((x.2.1.1,x.2.1.2),
 ((x.2.2.1.1,x.2.2.1.2),(x.2.2.2.1,x.2.2.2.2))))) (λa=>(Ab a (Ab (AI x.2.2.1.1 0) (some false) (Ab (Ap h.2) (some false) (Aa (Ea (x.1,
 ((x.2.1.1,x.2.1.2),((x.2.2.1.1,x.2.2.1.2),(x.2.2.2.1,x.2.2.2.2))))) (λb=>(Ab b (Ab (Ap g.2) (Ab (Ap x.2.2.2.2) (some false) (Aa (Df (x.1,
 ((x.2.1.1,x.2.1.2),((x.2.2.1.1,x.2.2.1.2),(x.2.2.2.1,x.2.2.2.2))))) (λc=>(Ab c (some false) (Ab (AI x.2.2.2.1 3) (some true) (Aa (Cz
 ((x.2.1.1,x.2.1.2),(x.2.2.1.1,x.2.2.1.2))) (λe=>(some e)))))))) (Ab (AI x.2.2.2.1 3) (some true) (Aa (Cz ((x.2.1.1,x.2.1.2),(x.2.2.1.1,
 x.2.2.1.2))) (λc=>(some c))))) (Ab (AI x.2.2.2.1 3) (some true) (Aa (Cz ((x.2.1.1,x.2.1.2),(x.2.2.1.1,x.2.2.1.2))) (λc=>(some
 c))))))))) (Aa (Ea (x.1,((x.2.1.1,x.2.1.2),((x.2.2.1.1,x.2.2.1.2),(x.2.2.2.1,x.2.2.2.2))))) (λb=>(Ab b (Ab (Ap g.2) (Ab (Ap x.2.2.2.2)
 (some false) (Aa (Df (x.1,((x.2.1.1,x.2.1.2),((x.2.2.1.1,x.2.2.1.2),(x.2.2.2.1,x.2.2.2.2))))) (λc=>(Ab c (some false) (Ab (AI x.2.2.2.1 3)
 (some true) (Aa (Cz ((x.2.1.1,x.2.1.2),(x.2.2.1.1,x.2.2.1.2))) (λe=>(some e)))))))) (Ab (AI x.2.2.2.1 3) (some true) (Aa (Cz
 ((x.2.1.1,x.2.1.2),(x.2.2.1.1,x.2.2.1.2))) (λc=>(some c))))) (Ab (AI x.2.2.2.1 3) (some true) (Aa (Cz ((x.2.1.1,x.2.1.2),(x.2.2.1.1,
 x.2.2.1.2))) (λc=>(some c)))))))))))))))) (Aa (Df (x.1,((x.2.1.1,x.2.1.2),((x.2.2.1.1,x.2.2.1.2),(x.2.2.2.1,x.2.2.2.2))))) (λf=>
 (Ab f (Ab (AI x.2.2.1.1 0) (some false) (Ab (Ap h.2) (some false) (Aa (Ea (x.1,((x.2.1.1,x.2.1.2),((x.2.2.1.1,x.2.2.1.2),(x.2.2.2.1,x.2.2.2.2))))) (λd=>(Ab d (Ab (Ap g.2) (Ab (Ap x.2.2.2.2) (some false) (Aa (Df (x.1,((x.2.1.1,x.2.1.2),((x.2.2.1.1,x.2.2.1.2),(x.2.2.2.1,x.2.2.2.2))))) (λa=>(Ab a (some false) (Ab (AI x.2.2.2.1 3) (some true) (Aa (Cz ((x.2.1.1,x.2.1.2),(x.2.2.1.1,x.2.2.1.2))) (λb=>(some b)))))))) (Ab
 (AI x.2.2.2.1 3) (some true) (Aa (Cz ((x.2.1.1,x.2.1.2),(x.2.2.1.1,x.2.2.1.2))) (λa=>(some a))))) (Ab (AI x.2.2.2.1 3) (some true) (Aa
 (Cz ((x.2.1.1,x.2.1.2),(x.2.2.1.1,x.2.2.1.2))) (λa=>(some a))))))))) (Aa (Ea (x.1,((x.2.1.1,x.2.1.2),((x.2.2.1.1,x.2.2.1.2),
 (x.2.2.2.1,x.2.2.2.2))))) (λd=>(Ab d (Ab (Ap g.2) (Ab (Ap x.2.2.2.2) (some false) (Aa (Df (x.1,((x.2.1.1,x.2.1.2),((x.2.2.1.1,x.2.2.1.2),
 (x.2.2.2.1,x.2.2.2.2))))) (λa=>(Ab a (some false) (Ab (AI x.2.2.2.1 3) (some true) (Aa (Cz ((x.2.1.1,x.2.1.2),(x.2.2.1.1,x.2.2.1.2))) (fun
 b=>(some b)))))))) (Ab (AI x.2.2.2.1 3) (some true) (Aa (Cz ((x.2.1.1,x.2.1.2),(x.2.2.1.1,x.2.2.1.2))) (λa=>(some a))))) (Ab
 (AI x.2.2.2.1 3) (some true) (Aa (Cz ((x.2.1.1,x.2.1.2),(x.2.2.1.1,x.2.2.1.2))) (λa=>(some a)))))))))))))))))))) (Aa (I6 (x.2.1.1,
 x.2.1.2)) (λj=>(Aa (I6 (x.2.2.1.1,x.2.2.1.2)) (λg=>(Aa (Ea (x.1,((x.2.1.1,x.2.1.2),((x.2.2.1.1,x.2.2.1.2),(x.2.2.2.1,
 x.2.2.2.2))))) (λh=>(Ab h (Aa (BU (x.2.1.1,(1,5))) (λi=>(Ab (Ap i) (some false) (Aa (M0 (x.2.1.1,x.2.1.2)) (λf
 => (Ab (Ap f) (some false) (Aa (Df (x.1,((x.2.1.1,x.2.1.2),((x.2.2.1.1,x.2.2.1.2),(x.2.2.2.1,x.2.2.2.2))))) (λd=>(Ab d (Ab (AI x.2.2.1.1 0)
 (some false) (Ab (Ap g.2) (some false) (Aa (Ea (x.1,((x.2.1.1,x.2.1.2),((x.2.2.1.1,x.2.2.1.2),(x.2.2.2.1,x.2.2.2.2))))) (λa=>(Ab a (Ab (Ap
 j.2) (Ab (Ap x.2.2.2.2) (some false) (Aa (Df (x.1,((x.2.1.1,x.2.1.2),((x.2.2.1.1,x.2.2.1.2),(x.2.2.2.1,x.2.2.2.2))))) (λb=>(Ab b (some false)
 (Ab (AI x.2.2.2.1 3) (some true) (Aa (Cz ((x.2.1.1,x.2.1.2),(x.2.2.1.1,x.2.2.1.2))) (λc=>(some c)))))))) (Ab (AI x.2.2.2.1 3) (some true) (Aa
 (Cz ((x.2.1.1,x.2.1.2),(x.2.2.1.1,x.2.2.1.2))) (λb=>(some b))))) (Ab (AI x.2.2.2.1 3) (some true) (Aa (Cz ((x.2.1.1,x.2.1.2),
 (x.2.2.1.1,x.2.2.1.2))) (λb=>(some b))))))))) (Aa (Ea (x.1,((x.2.1.1,x.2.1.2),((x.2.2.1.1,x.2.2.1.2),(x.2.2.2.1,x.2.2.2.2))))) (λa
 => (Ab a (Ab (Ap j.2) (Ab (Ap x.2.2.2.2) (some false) (Aa (Df (x.1,((x.2.1.1,x.2.1.2),((x.2.2.1.1,x.2.2.1.2),(x.2.2.2.1,x.2.2.2.2))))) (λb
 => (Ab b (some false) (Ab (AI x.2.2.2.1 3) (some true) (Aa (Cz ((x.2.1.1,x.2.1.2),(x.2.2.1.1,x.2.2.1.2))) (λc=>(some c)))))))) (Ab (AI
 x.2.2.2.1 3) (some true) (Aa (Cz ((x.2.1.1,x.2.1.2),(x.2.2.1.1,x.2.2.1.2))) (λb=>(some b))))) (Ab (AI x.2.2.2.1 3) (some true) (Aa
 (Cz ((x.2.1.1,x.2.1.2),(x.2.2.1.1,x.2.2.1.2))) (λb=>(some b)))))))))))))))) (Aa (Df (x.1,((x.2.1.1,x.2.1.2),((x.2.2.1.1,x.2.2.1.2),
 (x.2.2.2.1,x.2.2.2.2))))) (λi=>(Ab i (Ab (AI x.2.2.1.1 0) (some false) (Ab (Ap g.2) (some false) (Aa (Ea (x.1,((x.2.1.1,x.2.1.2),((x.2.2.1.1,
 x.2.2.1.2),(x.2.2.2.1,x.2.2.2.2))))) (λf=>(Ab f (Ab (Ap j.2) (Ab (Ap x.2.2.2.2) (some false) (Aa (Df (x.1,((x.2.1.1,x.2.1.2),((x.2.2.1.1,
 x.2.2.1.2),(x.2.2.2.1,x.2.2.2.2))))) (λd=>(Ab d (some false) (Ab (AI x.2.2.2.1 3) (some true) (Aa (Cz ((x.2.1.1,x.2.1.2),(x.2.2.1.1,
 x.2.2.1.2))) (λa=>(some a)))))))) (Ab (AI x.2.2.2.1 3) (some true) (Aa (Cz ((x.2.1.1,x.2.1.2),(x.2.2.1.1,x.2.2.1.2))) (λd=>(some
 d))))) (Ab (AI x.2.2.2.1 3) (some true) (Aa (Cz ((x.2.1.1,x.2.1.2),(x.2.2.1.1,x.2.2.1.2))) (λd=>(some d))))))))) (Aa (Ea (x.1,
 ((x.2.1.1,x.2.1.2),((x.2.2.1.1,x.2.2.1.2),(x.2.2.2.1,x.2.2.2.2))))) (λf=>(Ab f (Ab (Ap j.2) (Ab (Ap x.2.2.2.2) (some false) (Aa (Df (x.1,
 ((x.2.1.1,x.2.1.2),((x.2.2.1.1,x.2.2.1.2),(x.2.2.2.1,x.2.2.2.2))))) (λd=>(Ab d (some false) (Ab (AI x.2.2.2.1 3) (some true) (Aa (Cz
 ((x.2.1.1,x.2.1.2),(x.2.2.1.1,x.2.2.1.2))) (λa=>(some a)))))))) (Ab (AI x.2.2.2.1 3) (some true) (Aa (Cz ((x.2.1.1,x.2.1.2),(x.2.2.1.1,
 x.2.2.1.2))) (λd=>(some d))))) (Ab (AI x.2.2.2.1 3) (some true) (Aa (Cz ((x.2.1.1,x.2.1.2),(x.2.2.1.1,x.2.2.1.2))) (λd=>(some
 d)))))))))))))))))))))))))))))
def M4(x:Int):Dx:=(Aa (BU (x,(0,65535))) (λa=>(some a)))
def dT(x:K3):Dx:=(Ab (Ak x.2.2.2.2.1 0) (Ab (Ak x.2.2.2.2.2.1 0) (Ab (Ak x.2.2.2.2.2.2 0) (some (AI x.1 4)) (some false)) (some false)) (Aa
 (BU (x.2.2.2.2.1,(1,9))) (λa=>(Ab a (Aa (M4 x.2.2.2.2.2.1) (λb=>(Ab b (Aa (BU (x.2.2.2.2.2.2,(0,6))) (λc
 => (some c))) (some false)))) (some false)))))
def NV(x:K3):Dx:=(Aa (XP (x.2.1.1,((x.2.1.2.1.1,x.2.1.2.1.2),((x.2.1.2.2.1.1,x.2.1.2.2.1.2),(x.2.1.2.2.2.1,x.2.1.2.2.2.2))))) (fun
 b=>(AC (Ab (Ak x.1 1) (Aa (J6 (x.2.1.1,((x.2.1.2.1.1,x.2.1.2.1.2),((x.2.1.2.2.1.1,x.2.1.2.2.1.2),(x.2.1.2.2.2.1,x.2.1.2.2.2.2))))) (λa
 => (some (.inl (a,((Dc x.2.2.1 []),(Ak x.2.2.2.1 0))))))) (Ab (Ak x.1 2) (Aa (P8 x.2.2.1) (λa=>(some (.inl (b,(a,(Ak x.2.2.2.1 0))))))) (Ab
 (Ak x.1 3) (Aa (BU (x.2.2.2.1,(0,7))) (λa=>(some (.inl (b,((Dc x.2.2.1 []),a)))))) (some (.inl (b,((Dc x.2.2.1 []),(Ak x.2.2.2.1 0)))))))) (fun
 (a:(Bool×(Bool×Bool)))=>(Aa (BU (x.1,(1,4))) (λc=>(Ab c (Ab a.1 (Ab a.2.1 (Ab a.2.2 (Aa (dT (x.1,((x.2.1.1,((x.2.1.2.1.1,
 x.2.1.2.1.2),((x.2.1.2.2.1.1,x.2.1.2.2.1.2),(x.2.1.2.2.2.1,x.2.1.2.2.2.2)))),(x.2.2.1,(x.2.2.2.1,(x.2.2.2.2.1,(x.2.2.2.2.2.1,x.2.2.2.2.2.2))))))) (λd=>
 (some d))) (some false)) (some false)) (some false)) (some false))))))))
def JZ(x:Fc):He:=(A3 (Bk (0+x.1.length) 1) (A3 (Bk ((Ax [] x.1).length+2) 1) (some (Ax (Ax [] x.1) [(u8 (Az .u8 (Cl .i64 x.2
 8))),(u8 (Az .u8 x.2))]))))
def P9(x:((List UInt8)×(List UInt8))):He:=(Ab (Cr (Am x.2) 60) (A3 (Bk (0+x.1.length) 1) (some (Ax [] x.1))) (Aa (JZ (x.1,(Am
 x.2))) (λa=>(A3 (Bk (a.length+x.2.length) 1) (some (Ax a x.2))))))
def dS(x:Bool):(Option UInt8):=(Ab x (some (u8 1)) (some (u8 0)))
def RA(x:wL):He:=(A3 (Bk (x.1.length+1) 1) (Aa (P9 ((Ax x.1 [(u8 (Az .u8 x.2.1))]),x.2.2)) (λa=>(some
 a))))
def Uj(x:vx):He:=(A3 (Bk (0+x.1.length) 1) (Aa (J6 (x.2.1,((x.2.2.1.1,x.2.2.1.2),((x.2.2.2.1.1,x.2.2.2.1.2),(x.2.2.2.2.1,
 x.2.2.2.2.2))))) (λe=>(Ab (Ap e) (some (Ax [] x.1)) (Aa (P9 ((Ax [] x.1),x.2.1)) (λc=>(Aa (dS x.2.2.2.2.2) (fun
 d=>(A3 (Bk (c.length+2) 1) (AC (Aa (Ea (x.2.1,((x.2.2.1.1,x.2.2.1.2),((x.2.2.2.1.1,x.2.2.2.1.2),(x.2.2.2.2.1,x.2.2.2.2.2))))) (λb
 => (Ab b (Aa (RA ((Ax c [(u8 (Az .u8 x.2.2.2.2.1)),d]),(x.2.2.1.1,x.2.2.1.2))) (λa=>(some (.inl a)))) (some (.inl (Ax c [(u8
 (Az .u8 x.2.2.2.2.1)),d])))))) (λ(b:(List UInt8))=>(AC (Aa (Df (x.2.1,((x.2.2.1.1,x.2.2.1.2),((x.2.2.2.1.1,x.2.2.2.1.2),(x.2.2.2.2.1,
 x.2.2.2.2.2))))) (λa=>(Ab a (Aa (RA (b,(x.2.2.2.1.1,x.2.2.2.1.2))) (λf=>(some (.inl f)))) (some (.inl b))))) (λ(a:
 (List UInt8))=>(some a))))))))))))))
def eW:(Int×Int)->Option wC:=λ(a:(Int×Int))=>(Ab (Bb a.2 8) (AC (Ab (Cr (C9 .i64 a.1 1) 65535) (some (.inl (JD .i64 (C9 .i64
 a.1 1) 69665))) (some (.inl (C9 .i64 a.1 1)))) (λ(b:Int)=>(some (.inl (b,(Au .i64 a.2 1)))))) (some (.inr (.inl a.1))))
def eX(x:(List UInt8)):(Int×Int)->Option dB:=λ(a:(Int×Int))=>(Ab (Bb a.2 (Am x)) (AC (Aa (idx x a.2) (λb=>
 (Bd (eW) ((JD .i64 a.1 (C9 .i64 (Az .i64 (Aj b)) 8)),0)))) (λ(b:Int)=>(some (.inl (b,(Au .i64 a.2 1)))))) (some (.inr (.inl a.1))))
def NX(x:(List UInt8)):(Option Int):=(AC (Bd (eX x) (65535,0)) (λ(a:Int)=>(some (Bg .i64 a 65535))))
def R5(x:vh):He:=(Aa (NV (x.2.2.1,((x.2.2.2.1.1,((x.2.2.2.1.2.1.1,x.2.2.2.1.2.1.2),((x.2.2.2.1.2.2.1.1,x.2.2.2.1.2.2.1.2),
 (x.2.2.2.1.2.2.2.1,x.2.2.2.1.2.2.2.2)))),(x.2.2.2.2.1,(x.2.2.2.2.2.1,(x.2.2.2.2.2.2.1,(x.2.2.2.2.2.2.2.1,x.2.2.2.2.2.2.2.2))))))) (λd=>(Ab (Ap d) (some
 []) (Aa (M4 x.1) (λe=>(Ab (Ap e) (some []) (Aa (M4 x.2.1) (λf=>(Ab (Ap f) (some []) (al 3 (Aa (JZ ([],x.1)) (fun
 g=>(Aa (JZ (g,x.2.1)) (λa=>(A3 (Bk (a.length+1) 1) (AC (Ab (Ak x.2.2.1 1) (Aa (Uj ((Ax a [(u8 (Az
 .u8 x.2.2.1))]),(x.2.2.2.1.1,((x.2.2.2.1.2.1.1,x.2.2.2.1.2.1.2),((x.2.2.2.1.2.2.1.1,x.2.2.2.1.2.2.1.2),(x.2.2.2.1.2.2.2.1,x.2.2.2.1.2.2.2.2)))))) (λb
 => (some (.inl b)))) (Ab (Ak x.2.2.1 2) (Aa (P9 ((Ax a [(u8 (Az .u8 x.2.2.1))]),x.2.2.2.2.1)) (λb=>(some (.inl b)))) (Ab (Ak x.2.2.1
 3) (A3 (Bk ((Ax a [(u8 (Az .u8 x.2.2.1))]).length+1) 1) (some (.inl (Ax (Ax a [(u8 (Az .u8 x.2.2.1))]) [(u8 (Az .u8 x.2.2.2.2.2.1))])))) (some (.inl (Ax
 a [(u8 (Az .u8 x.2.2.1))])))))) (λ(b:(List UInt8))=>(A3 (Bk (b.length+2) 1) (Aa (JZ ((Ax b [(u8 (Az .u8 x.2.2.2.2.2.2.1)),(u8 (Az .u8
 x.2.2.2.2.2.2.2.2))]),x.2.2.2.2.2.2.2.1)) (λc=>(Aa (NX c) (λh=>(Aa (JZ (c,h)) (λi=>(some
 i)))))))))))))))))))))))))
def R9(x:Ez):wN:=(Ab (Ak x.2.2.1 0) (some (false,((-1),true))) (Ab (Cr x.2.2.1 0) (some (true,((Br .i64 x.2.2.1 1),x.2.2.2))) (some (true,
 (x.2.2.1,x.2.2.2)))))
def KE(x:vz):(Option cw):=(Ab x.1.2.2.2 (some (x.1.2.1,(x.1.2.2.1,x.1.2.2.2))) (Aa (BU (x.2.1,(0,(Br .i64 (Am x.1.1) 1)))) (fun
 b=>(Ab (Ap b) (some (x.1.2.1,(x.1.2.2.1,x.1.2.2.2))) (Ab (Cr (Am x.2.2) 120) (some (x.1.2.1,(x.1.2.2.1,x.1.2.2.2))) (Ab (Dk (Am x.1.2.1) 40) (some
 (x.1.2.1,(x.1.2.2.1,x.1.2.2.2))) (Aa (R9 (x.1.1,(x.1.2.1,(x.1.2.2.1,x.1.2.2.2)))) (λa=>(Ab (Ap a.1) (some (x.1.2.1,(a.2.1,a.2.2))) (A3 (Bk
 (0+x.2.2.length) 1) (A3 (Bk (x.1.2.1.length+1) 32) (some ((Ax x.1.2.1 [(x.2.1,(Ax [] x.2.2))]),(a.2.1,a.2.2))))))))))))))
def Ka(x:(List (List UInt8))×(List (Int×(List UInt8)))×Int×Bool):Option ((List (List UInt8))×(List (Int×(List UInt8)))×Int×Bool):=A3 (decide ((-1<=x.2.2.1/\x.2.2.1<=1000)/\x.1.length<2^40/\x.2.1.length<2^40/\∀w∈x.2.1,0<=w.1/\w.1<=(x.1.length:Int)-1)) (some (E6 x.1 x.2.1 x.2.2.1 x.2.2.2))
def XJ(x:(Int×Int)):He:=(Aa (BU (x.1,(1,60000))) (λb=>(Ab (Ap b) (some []) (Aa (BU (x.2,(0,30))) (λc=>(Ab (Ap c) (some []) (Aa (JZ ([],x.1)) (λd=>(Aa (JZ (d,x.2)) (λa=>(Aa (NX a) (λe=>
 (Aa (JZ (a,e)) (λf=>(some f)))))))))))))))
def YV(x:wZ)(c:Mo):ct->Option (ct ⊕ (cw ⊕ cn)):=λ(a:ct)=>(Ab (Bb a.2.2.2 (Am c)) (Aa (L2 (x.2,a.2.2.2))
 (λd=>(Aa (idx c a.2.2.2) (λe=>(Aa (R5 (x.2,(a.2.2.2,e))) (λf=>(Aa (KE ((x.1.1.1,(a.1,(a.2.1,
 a.2.2.1))),(d,f))) (λb=>(some (.inl (b.1,(b.2.1,(b.2.2,(Au .i64 a.2.2.2 1)))))))))))))) (some (.inr (.inl (a.1,(a.2.1,a.2.2.1))))))
def L3(x:wZ):(Option cn):=(Aa (Uk x.1.2.1) (λb=>(AC (Bd (YV x b) (x.1.1.2.1,(x.1.1.2.2.1,(x.1.1.2.2.2,
 0)))) (λ(d:cw)=>(Aa (Ka (x.1.1.1,d)) (λc=>(Aa (XJ (x.2,(Am b))) (λe=>(Aa (KE (c,((EX x.2
 2),e))) (λf=>(Aa (Ka (c.1,f)) (λa=>(Ab (Ap a.2.2.2) (some (a.1,(a.2.1,(a.2.2.1,(a.2.2.2,(x.1.2.1.2.1,(x.2,(Am
 b)))))))) (some (a.1,(a.2.1,(a.2.2.1,(a.2.2.2,(x.1.2.1.2.1,x.1.2.2)))))))))))))))))))
def Ue(x:Unit):Pq:=(Aa (Ua 62) (λb=>(Aa (L3 ((b,(([],(0,[])),(0,0))),1)) (λa=>(some ((a.1,
 (a.2.1,(a.2.2.1,a.2.2.2.1))),(([],(a.2.2.2.2.1,[])),a.2.2.2.2.2)))))))
def NZ(x:FN):Pp:=(AC (Ab (Bb x.2.1 (Am x.1)) (Aa (idx x.1 x.2.1) (λa=>(some (.inl ((Au .i64 x.2.1 1),(Bg .i64 (Au
 .i64 (Bg .i64 (JD .i64 (Cl .i64 (Au .i64 (Fu .i64 x.2.2 6364136223846793005) 1442695040888963407) 33) (Cl .i64 (Au .i64 (Fu .i64 x.2.2 6364136223846793005)
 1442695040888963407) 47)) 255) (Az .i64 (Aj a))) 255)))))) (some (.inl (x.2.1,(Bg .i64 (JD .i64 (Cl .i64 (Au .i64 (Fu .i64 x.2.2 6364136223846793005)
 1442695040888963407) 33) (Cl .i64 (Au .i64 (Fu .i64 x.2.2 6364136223846793005) 1442695040888963407) 47)) 255))))) (λ(a:(Int×Int))=>(some (a.2,(a.1,(Au .i64
 (Fu .i64 x.2.2 6364136223846793005) 1442695040888963407))))))
def Ct(x:K4):Pp:=(Ab (Ck x.2 0) (some (0,(x.1.2.1,x.1.2.2))) (Ab (Ck x.2 256) (Aa (NZ (x.1.1,(x.1.2.1,x.1.2.2))) (λa
 => (A3 (AI x.2 0) (some ((EX a.1 x.2),(a.2.1,a.2.2)))))) (Aa (NZ (x.1.1,(x.1.2.1,x.1.2.2))) (λa=>(Aa (NZ (x.1.1,(a.2.1,a.2.2)))
 (λb=>(Aa (NZ (x.1.1,(b.2.1,b.2.2))) (λc=>(A3 (AI x.2 0) (some ((EX (Au .i64 (Au .i64 (Fu .i64 a.1 65536) (Fu .i64 b.1
 256)) c.1) x.2),(c.2.1,c.2.2))))))))))))
def XZ(x:FN):Pp:=(Aa (Ct ((x.1,(x.2.1,x.2.2)),5)) (λa=>(some ((Au .i64 1 a.1),(a.2.1,a.2.2)))))
def Ut(x:(FN×Hu)):Rh:=(Aa (Ct ((x.1.1,(x.1.2.1,x.1.2.2)),(Am x.2))) (λa=>(Aa (idx x.2 a.1) (λb=>(some (b,(a.2.1,a.2.2)))))))
def Ur(x:FN):Rh:=(Aa (Ut ((x.1,(x.2.1,x.2.2)),[[97],[98],[99],[100],[101,53]])) (λa=>(some (a.1,(a.2.1,
 a.2.2)))))
def E2(x:(FN×(List Int))):Pp:=(Aa (Ct ((x.1.1,(x.1.2.1,x.1.2.2)),(Am x.2))) (λa=>(Aa (idx x.2 a.1) (λb
 => (some (b,(a.2.1,a.2.2)))))))
def XX(x:FN):Pp:=(Aa (E2 ((x.1,(x.2.1,x.2.2)),[0,97,90,127,128,164,233,2047,2048,8364,1072,1102,1025,12354,12450,352,
 65535,65536,1114111])) (λa=>(some (a.1,(a.2.1,a.2.2)))))
def Yc(x:K4):Pp:=(Ab (Ak x.2 0) (Aa (XX (x.1.1,(x.1.2.1,x.1.2.2))) (λa=>(some (a.1,(a.2.1,a.2.2))))) (Ab (Ak x.2
 5) (Aa (E2 ((x.1.1,(x.1.2.1,x.1.2.2)),[97,32,12353,12435,12449,12534,12354])) (λa=>(some (a.1,(a.2.1,a.2.2))))) (Aa (E2 ((x.1.1,
 (x.1.2.1,x.1.2.2)),[65,97,32,164,192,200,228,255,163,128,130,189])) (λa=>(Aa (KD (x.2,a.1)) (λb=>(Ab (Ap b.2)
 (some (120,(a.2.1,a.2.2))) (some (b.1,(a.2.1,a.2.2))))))))))
def YY(x:wI):WV->Option vw:=λ(a:WV)=>(Ab (Cr a.2.2.2 0) (Aa (Yc ((x.1.1,(a.1,a.2.1)),x.2.1)) (λb=>
 (Aa (M2 (a.2.2.1,b.1)) (λc=>(some (.inl (b.2.1,(b.2.2,(c,(Br .i64 a.2.2.2 1)))))))))) (some (.inr (.inl (a.1,(a.2.1,
 a.2.2.1))))))
def PH(x:wI):Rh:=(AC (Aa (Ct ((x.1.1,(x.1.2.1,x.1.2.2)),(Au .i64 x.2.2 1))) (λa=>(Bd (YY x) (a.2.1,
 (a.2.2,([],a.1)))))) (λ(a:WX)=>(some (a.2.2,(a.1,a.2.1)))))
def eV(x:(List UInt8)):l3->Option (l3 ⊕ ((List Int) ⊕ lZ)):=λ(a:l3)=>(Ab (Bb a.2 (Am x)) (Aa (Ug (x,a.2)) (λb=>(Ab (Ap b.2.2) (some (.inr (.inr ([],false)))) (A3 (Bk (a.1.length+1) 8) (some (.inl ((Ax a.1 [b.1]),b.2.1))))))) (some (.inr (.inl a.1))))
def XM(x:(List UInt8)):(Option lZ):=(AC (Bd (eV x) ([],0)) (λ(a:(List Int))=>(some (a,true))))
def dR(x:Int):IX:=(Aa (BU (x,(12353,12435))) (λa=>(Ab a (some (164,((Au .i64 (Br .i64 x 12353) 161),true))) (Aa
 (BU (x,(12449,12534))) (λb=>(Ab b (some (165,((Au .i64 (Br .i64 x 12449) 161),true))) (some (0,(0,false)))))))))
def Ui(x:Fc):Rj:=(A3 (Bk (0+x.1.length) 1) (Aa (BU (x.2,(0,127))) (λb=>(Ab b (A3 (Bk ((Ax [] x.1).length+1)
 1) (some ((Ax (Ax [] x.1) [(u8 (Az .u8 x.2))]),true))) (Aa (dR x.2) (λa=>(Ab (Ap a.2.2) (some ((Ax [] x.1),false)) (A3 (Bk ((Ax []
 x.1).length+2) 1) (some ((Ax (Ax [] x.1) [(u8 (Az .u8 a.1)),(u8 (Az .u8 a.2.1))]),true))))))))))
def nE(x:(Int×Int)):(Int)->Option ((Int) ⊕ (Unit ⊕ (Int×Bool))):=λ(a:Int)=>(Ab (Bb a 256) (Aa (KD (x.1,a)) (λb=>(Ab b.2 (Ab (Ak b.1 x.2) (some (.inr (.inr (a,true)))) (some (.inl (Au .i64 a 1)))) (some (.inl (Au .i64 a 1)))))) (some (.inr (.inl ()))))
def XL(x:(Int×Int)):WY:=(AC (Bd (nE x) 0) (λ(a:Unit)=>(some (0,false))))
def Uv(x:dA):Rj:=(Ab (Ak x.1 0) (Aa (M2 (x.2.1,x.2.2)) (λa=>(Aa (PB x.2.2) (λb=>(some
 (a,b)))))) (Ab (Ak x.1 5) (Aa (Ui (x.2.1,x.2.2)) (λa=>(some (a.1,a.2)))) (Aa (XL (x.1,x.2.2)) (λa=>(Ab (Ap
 a.2) (A3 (Bk (0+x.2.1.length) 1) (some ((Ax [] x.2.1),false))) (A3 (Bk (0+x.2.1.length) 1) (A3 (Bk ((Ax [] x.2.1).length+1) 1) (some ((Ax (Ax [] x.2.1)
 [(u8 (Az .u8 a.1))]),true)))))))))
def eQ(x:Fb)(b:lZ):Fc->Option lW:=λ(a:Fc)=>(Ab (Bb a.2 (Am b.1)) (Aa (idx b.1 a.2) (λd=>(Aa (Uv
 (x.1,(a.1,d))) (λc=>(Ab (Ap c.2) (some (.inr (.inr ([],false)))) (some (.inl (c.1,(Au .i64 a.2 1))))))))) (some (.inr (.inl a.1))))
def Ub(x:Fb):Rj:=(Aa (XM x.2) (λa=>(Aa (PG x.1) (λb=>(Ab (Ap b) (some ([],false)) (Ab (Ap
 a.2) (some ([],false)) (AC (Bd (eQ x a) ([],0)) (λ(c:(List UInt8))=>(some (c,true))))))))))
def P6(x:Fb):wJ:=(Aa (Ub (x.1,x.2)) (λa=>(Ab (Ap a.2) (some ((0,[]),false)) (Ab (Cr (Am a.1) 20) (some ((0,
 []),false)) (some ((x.1,a.1),true))))))
def R7(x:(Int×wL)):(Option Zoq):=(Aa (P6 (0,x.2.2.2)) (λa=>(Aa (BU (x.1,(0,7))) (λd=>(Ab (Ap
 d) (some (([],((0,[]),((0,[]),(0,false)))),1)) (Aa (P8 x.2.1) (λe=>(Ab (Ap e) (some (([],((0,[]),((0,[]),(0,false)))),1)) (Aa
 (BU (x.2.2.1,(1,5))) (λf=>(Ab (Ap f) (some (([],((0,[]),((0,[]),(0,false)))),1)) (Ab (Ap a.2) (some (([],((0,[]),((0,[]),(0,false)))),
 1)) (Aa (P6 (x.2.2.1,x.2.2.2)) (λb=>(AC (AC (Ab (Ak x.1 0) (some (.inl true)) (some (.inl (Ak x.1 7)))) (λ(c:Bool)=>(Ab c (Ab (Ap
 b.2) (some (.inr (([],((0,[]),((0,[]),(0,false)))),3))) (some (.inr ((x.2.1,((b.1.1,b.1.2),((0,[]),(1,false)))),0)))) (AC (Ab (Ak x.1 4) (some (.inl true))
 (some (.inl (Ak x.1 5)))) (λ(g:Bool)=>(Ab g (some (.inr ((x.2.1,((0,[]),((a.1.1,a.1.2),(2,false)))),0))) (Ab (Ak x.1 6) (Ab b.2 (some (.inr ((x.2.1,
 ((b.1.1,b.1.2),((0,[]),(1,false)))),0))) (some (.inr ((x.2.1,((0,[]),((a.1.1,a.1.2),(2,true)))),0)))) (some (.inl ([],(0,([],(0,([],(0,false)))))))))))))))
 (λ(c:lV)=>(Ab (Ap b.2) (some ((x.2.1,((0,[]),((a.1.1,a.1.2),(2,true)))),0)) (some ((x.2.1,((b.1.1,b.1.2),((a.1.1,a.1.2),(3,false)))),
 0)))))))))))))))))))
def Um(x:(Fb×Int)):wJ:=(Aa (I6 (x.1.1,x.1.2)) (λc=>(Aa (P6 (x.2,c.1)) (λb=>(Ab (Ap c.2)
 (Aa (M5 (x.1.1,x.1.2)) (λa=>(some ((a.1,a.2),false)))) (Ab (Ap b.2) (Aa (M5 (x.1.1,x.1.2)) (λa=>(some ((a.1,a.2),
 false)))) (some ((b.1.1,b.1.2),true))))))))
def Ud(x:GK):co:=(Aa (Kc (x.1,((x.2.1.1,x.2.1.2),((x.2.2.1.1,x.2.2.1.2),(x.2.2.2.1,x.2.2.2.2))))) (λa=>(Aa
 (J6 (x.1,((x.2.1.1,x.2.1.2),((x.2.2.1.1,x.2.2.1.2),(x.2.2.2.1,x.2.2.2.2))))) (λc=>(Ab (Ap c) (some (a.1,((a.2.1.1,a.2.1.2),((a.2.2.1.1,
 a.2.2.1.2),(a.2.2.2.1,a.2.2.2.2))))) (Aa (Df (x.1,((x.2.1.1,x.2.1.2),((x.2.2.1.1,x.2.2.1.2),(x.2.2.2.1,x.2.2.2.2))))) (λd=>(Ab d (some (a.1,
 ((a.2.1.1,a.2.1.2),((a.2.2.1.1,a.2.2.1.2),(a.2.2.2.1,a.2.2.2.2))))) (Aa (Um ((x.2.1.1,x.2.1.2),0)) (λb=>(Ab (Ap b.2) (some (a.1,
 ((a.2.1.1,a.2.1.2),((a.2.2.1.1,a.2.2.1.2),(a.2.2.2.1,true))))) (some (a.1,((a.2.1.1,a.2.1.2),((b.1.1,b.1.2),(3,a.2.2.2.2))))))))))))))))
def TZ(x:GK):co:=(Aa (Kc (x.1,((x.2.1.1,x.2.1.2),((x.2.2.1.1,x.2.2.1.2),(x.2.2.2.1,x.2.2.2.2))))) (λa=>(Aa
 (J6 (x.1,((x.2.1.1,x.2.1.2),((x.2.2.1.1,x.2.2.1.2),(x.2.2.2.1,x.2.2.2.2))))) (λb=>(Ab (Ap b) (some (a.1,((a.2.1.1,a.2.1.2),((a.2.2.1.1,
 a.2.2.1.2),(a.2.2.2.1,a.2.2.2.2))))) (Aa (Df (x.1,((x.2.1.1,x.2.1.2),((x.2.2.1.1,x.2.2.1.2),(x.2.2.2.1,x.2.2.2.2))))) (λc=>(Ab (Ap c) (some
 (a.1,((a.2.1.1,a.2.1.2),((a.2.2.1.1,a.2.2.1.2),(a.2.2.2.1,a.2.2.2.2))))) (Aa (Ea (x.1,((x.2.1.1,x.2.1.2),((x.2.2.1.1,x.2.2.1.2),(x.2.2.2.1,
 x.2.2.2.2))))) (λd=>(Ab d (some (x.1,((a.2.1.1,a.2.1.2),((0,[]),(1,false))))) (some (a.1,((a.2.1.1,a.2.1.2),((a.2.2.1.1,a.2.2.1.2),(a.2.2.2.1,
 true))))))))))))))))
def Uy(x:FN):vv:=(Aa (XZ (x.1,(x.2.1,x.2.2))) (λd=>(Aa (Ur (x.1,(d.2.1,d.2.2))) (λi=>(Aa
 (Ct ((x.1,(i.2.1,i.2.2)),6)) (λe=>(Ab (Ak e.1 0) (some ((i.1,((3,[(u8 128),(u8 65)]),((0,[]),(1,true)))),(e.2.1,e.2.2))) (Ab (Ak
 e.1 1) (Aa (PH ((x.1,(e.2.1,e.2.2)),(d.1,5))) (λh=>(Aa (R7 (0,(i.1,(d.1,h.1)))) (λc=>(some ((c.1.1,((c.1.2.1.1,
 c.1.2.1.2),((c.1.2.2.1.1,c.1.2.2.1.2),(c.1.2.2.2.1,c.1.2.2.2.2)))),(h.2.1,h.2.2))))))) (Aa (Ct ((x.1,(e.2.1,e.2.2)),8)) (λh=>(Aa
 (E2 ((x.1,(h.2.1,h.2.2)),[d.1,d.1,d.1,0])) (λc=>(Aa (PH ((x.1,(c.2.1,c.2.2)),(c.1,5))) (λj=>(Aa (R7 (h.1,
 (i.1,(d.1,j.1)))) (λf=>(AC (Ab (AI f.2 0) (Aa (R7 (5,(i.1,(d.1,[120])))) (λb=>(some (.inl (b.1.1,(b.1.2.1.1,(b.1.2.1.2,
 (b.1.2.2.1.1,(b.1.2.2.1.2,(b.1.2.2.2.1,b.1.2.2.2.2)))))))))) (some (.inl (f.1.1,(f.1.2.1.1,(f.1.2.1.2,(f.1.2.2.1.1,(f.1.2.2.1.2,(f.1.2.2.2.1,
 f.1.2.2.2.2))))))))) (λ(b:lV)=>(Aa (Ct ((x.1,(j.2.1,j.2.2)),5)) (λg=>(Ab (Ak g.1 0) (Aa (Ud (b.1,((b.2.1,b.2.2.1),
 ((b.2.2.2.1,b.2.2.2.2.1),(b.2.2.2.2.2.1,b.2.2.2.2.2.2))))) (λa=>(some ((a.1,((a.2.1.1,a.2.1.2),((a.2.2.1.1,a.2.2.1.2),(a.2.2.2.1,
 a.2.2.2.2)))),(g.2.1,g.2.2))))) (Ab (Ak g.1 1) (Aa (TZ (b.1,((b.2.1,b.2.2.1),((b.2.2.2.1,b.2.2.2.2.1),(b.2.2.2.2.2.1,b.2.2.2.2.2.2))))) (λa=>(some ((a.1,((a.2.1.1,a.2.1.2),((a.2.2.1.1,a.2.2.1.2),(a.2.2.2.1,a.2.2.2.2)))),(g.2.1,g.2.2))))) (some ((b.1,((b.2.1,b.2.2.1),
 ((b.2.2.2.1,b.2.2.2.2.1),(b.2.2.2.2.2.1,b.2.2.2.2.2.2)))),(g.2.1,g.2.2)))))))))))))))))))))))))
def PF(x:K4):(Option Zou):=(Aa (Ct ((x.1.1,(x.1.2.1,x.1.2.2)),x.2)) (λa=>(some ((Ak a.1 0),(a.2.1,a.2.2)))))
def L0(x:FN):vf:=(Aa (Ct (x,4)) (λc=>(AC (Ab (Ak (Au .i64 1 c.1) 1) (Aa (Uy (x.1,c.2)) (λa=>(some (.inl (a.2.1,(a.2.2,(a.1.1,(a.1.2.1.1,(a.1.2.1.2,(a.1.2.2.1.1,(a.1.2.2.1.2,(a.1.2.2.2.1,(a.1.2.2.2.2,([],0)))))))))))))) (Ab (Ak (Au .i64 1
 c.1) 2) (Aa (Ur (x.1,c.2)) (λa=>(some (.inl (a.2.1,(a.2.2,([],(0,([],(0,([],(0,(false,(a.1,0)))))))))))))) (Ab (Ak (Au .i64 1 c.1) 3)
 (Aa (Ct ((x.1,c.2),8)) (λa=>(some (.inl (a.2.1,(a.2.2,([],(0,([],(0,([],(0,(false,([],a.1)))))))))))))) (some (.inl (c.2.1,(c.2.2,
 ([],(0,([],(0,([],(0,(false,([],0))))))))))))))) (λ(a:(Int×(Int×((List UInt8)×(Int×((List UInt8)×(Int×((List UInt8)×(Int×(Bool×Fc))))))))))=>
 (AC (Ab (Ak (Au .i64 1 c.1) 4) (Aa (Ct ((x.1,(a.1,a.2.1)),3)) (λb=>(Aa (E2 ((x.1,b.2),[0,1,2,65535])) (λe=>(Aa
 (Ct ((x.1,e.2),7)) (λd=>(some (.inl (d.2.1,(d.2.2,((Au .i64 1 b.1),(e.1,d.1)))))))))))) (Aa (PF ((x.1,(a.1,a.2.1)),2)) (fun
 b=>(Ab b.1 (Aa (Ct ((x.1,b.2),3)) (λe=>(Aa (E2 ((x.1,e.2),[0,1,2,65535])) (λd=>(Aa (Ct ((x.1,
 d.2),7)) (λf=>(some (.inl (f.2.1,(f.2.2,((Au .i64 1 e.1),(d.1,f.1)))))))))))) (some (.inl (b.2.1,(b.2.2,(0,(0,0)))))))))) (λ(b:(Int×(Int
 × I3)))=>(some (((Au .i64 1 c.1),((a.2.2.1,((a.2.2.2.1,a.2.2.2.2.1),((a.2.2.2.2.2.1,a.2.2.2.2.2.2.1),(a.2.2.2.2.2.2.2.1,a.2.2.2.2.2.2.2.2.1)))),
 (a.2.2.2.2.2.2.2.2.2.1,(a.2.2.2.2.2.2.2.2.2.2,b.2.2)))),(b.1,b.2.1)))))))))
def xX(x:Fm):Mp->Option wQ:=λ(c:Mp)=>(Ab (Bb c.2 (Am x.1)) (Aa (idx x.1 c.2) (λa=>(Aa (Kc (a.1,
 ((a.2.1.1,a.2.1.2),((a.2.2.1.1,a.2.2.1.2),(a.2.2.2.1,a.2.2.2.2))))) (λb=>(A3 (Bk (c.1.length+1) 96) (some (.inl ((Ax c.1 [(b.1,((b.2.1.1,
 b.2.1.2),((b.2.2.1.1,b.2.2.1.2),(b.2.2.2.1,b.2.2.2.2))))]),(Au .i64 c.2 1))))))))) (some (.inr (.inl c.1))))
def RC(x:Fm):vo:=(al 2 (A3 (Bk (0+x.2.2.length) 24) (AC (Bd (xX x) ([],0)) (λ(a:G3)=>(some (a,(x.2.1,(Ax []
 x.2.2))))))))
def Un(x:I3):Dx:=(Aa (BU (x.1,(1,9))) (λa=>(Ab a (Aa (M4 x.2.1) (λb=>(Ab b (Aa (BU
 (x.2.2,(0,6))) (λc=>(some c))) (some false)))) (some false))))
def YM(x:Fm):(Int)->Option Ls:=λ(a:Int)=>(Ab (Bb a (Am x.1)) (Aa (idx x.1 a) (λb=>(Aa (J6 (b.1,
 ((b.2.1.1,b.2.1.2),((b.2.2.1.1,b.2.2.1.2),(b.2.2.2.1,b.2.2.2.2))))) (λc=>(Ab (Ap c) (some (.inr (.inr false))) (Ab (Cr a 0) (Aa (idx x.1 (Br
 .i64 a 1)) (λd=>(Aa (idx x.1 a) (λe=>(Ab (Ap (FB d.1 e.1)) (some (.inr (.inr false))) (some (.inl (Au .i64 a 1)))))))) (some (.inl (Au
 .i64 a 1))))))))) (some (.inr (.inl ()))))
def YN(x:Fm):(Int)->Option Ls:=λ(a:Int)=>(Ab (Bb a (Am x.2.2)) (Aa (idx x.2.2 a) (λb=>(Aa (Un (b.1,
 (b.2.1,b.2.2))) (λc=>(Ab (Ap c) (some (.inr (.inr false))) (Ab (Cr a 0) (Aa (idx x.2.2 (Br .i64 a 1)) (λd=>(Aa (idx x.2.2 a) (fun
 e=>(Ab (Dk d.1 e.1) (some (.inr (.inr false))) (some (.inl (Au .i64 a 1)))))))) (some (.inl (Au .i64 a 1))))))))) (some (.inr (.inl ()))))
def M3(x:Fm):Dx:=(AC (Bd (YM x) 0) (λ(b:Unit)=>(AC (Bd (YN x) 0) (λ(c:Unit)=>(Ab (Ck (Am x.1) 8)
 (Aa (BU (x.2.1,(0,7))) (λa=>(some a))) (some false))))))
def YT(x:cj):lO->Option (lO ⊕ va):=λ(a:lO)=>(Ab (Bb a.2.2.2 (Am a.1)) (AC (AC (Ab (Ap a.2.2.1) (Aa (idx a.1
 a.2.2.2) (λb=>(Ab (Ap (FB b.1 x.2.1)) (Aa (Kc x.2) (λf=>(A3 (Bk (a.2.1.length+1) 96) (some (.inl ((Ax a.2.1 [f]),
 true)))))) (some (.inl (a.2.1,a.2.2.1)))))) (some (.inl (a.2.1,a.2.2.1)))) (λ(b:T4)=>(Aa (idx a.1 a.2.2.2) (λf=>(Ab (Ap (Dc f.1 x.2.1))
 (Aa (idx a.1 a.2.2.2) (λc=>(A3 (Ik c.2.1.2) (A3 (Ik c.2.2.1.2) (Aa (idx a.1 (Int.ofNat (A9 a.2.2.2))) (λd=>(Aa (idx (BS a.1
 (A9 a.2.2.2) (d.1,((d.2.1.1,none),d.2.2))) (Int.ofNat (A9 a.2.2.2))) (λe=>(A3 (Bk (b.1.length+1) 96) (some (.inl ((BS (BS a.1 (A9 a.2.2.2)
 (d.1,((d.2.1.1,none),d.2.2))) (A9 a.2.2.2) (e.1,(e.2.1,((e.2.2.1.1,none),e.2.2.2)))),((Ax b.1 [(c.1,((c.2.1.1,(JB c.2.1.2)),((c.2.2.1.1,(JB
 c.2.2.1.2)),c.2.2.2)))]),b.2))))))))))))) (some (.inl (a.1,b)))))))) (λ(b:(Pn×T4))=>(some (.inl (b.1,(b.2.1,(b.2.2,(Au .i64 a.2.2.2 1)))))))) (some
 (.inr (.inl (a.2.1,a.2.2.1)))))
def Up(x:cj):vy:=(AC (Bd (YT x) (x.1,([],(false,0)))) (λ(a:T4)=>(AC (Ab (Ap a.2) (Aa (Kc x.2) (λb=>(A3 (Bk (a.1.length+1) 96) (some (.inl (Ax a.1 [b])))))) (some (.inl a.1))) (λ(b:G3)=>(some b)))))
def eU(x:vk):(Int)->Option ((Int) ⊕ Int):=λ(a:Int)=>(Ab (Bb a (Am x.1.1)) (Aa (idx x.1.1 a) (λb=>(Ab (Dc b.1 x.2)
 (some (.inr a)) (some (.inl (Au .i64 a 1)))))) (some (.inr (-1))))
def Ul(x:vk):(Option Int):=(Bd (eU x) 0)
def eZ(x:WT):WU->Option vr:=λ(a:WU)=>(Ab (Bb a.2.2 (Am x.1)) (AC (AC (Ab (Ap a.2.1) (Aa (idx x.1 a.2.2) (λb=>(Ab (Dk b.1 x.2.1) (A3 (Bk (a.1.length+1) 24) (some (.inl ((Ax a.1 [x.2]),true)))) (some (.inl (a.1,a.2.1)))))) (some (.inl (a.1,a.2.1)))) (λ(b:
 Ri)=>(Aa (idx x.1 a.2.2) (λc=>(Ab (AI c.1 x.2.1) (Aa (idx x.1 a.2.2) (λd=>(A3 (Bk (b.1.length+1) 24) (some (.inl ((Ax b.1 [d]),
 b.2)))))) (some (.inl b))))))) (λ(b:Ri)=>(some (.inl (b.1,(b.2,(Au .i64 a.2.2 1))))))) (some (.inr (.inl (a.1,a.2.1)))))
def Uo(x:WT):wM:=(AC (Bd (eZ x) ([],(false,0))) (λ(a:Ri)=>(AC (Ab (Ap a.2) (A3 (Bk (a.1.length+1) 24)
 (some (.inl (Ax a.1 [x.2])))) (some (.inl a.1))) (λ(b:IY)=>(some b)))))
def P5(x:wS):vj:=(Aa (RC x.1) (λa=>(Aa (M3 x.1) (λd=>(Ab (Ap d) (some (a,false)) (Aa
 (NV x.2) (λe=>(Ab (Ap e) (some (a,false)) (AC (Ab (Ak x.2.1 1) (Aa (Ge (.P .S (.P (.P (.I .i64) (.L .Y)) (.P (.P (.I .i64) (.L .Y)) (.P (.I
 .i64) .B)))) (.P .S (.P (.P (.I .i64) (.H .Y)) (.P (.P (.I .i64) (.H .Y)) (.P (.I .i64) .B)))) a.1) (λb=>(Aa (Up (b,x.2.2.1)) (λc=>(some
 (.inl (c,a.2.1))))))) (Ab (Ak x.2.1 2) (Aa (Ul (a,x.2.2.2.1)) (λb=>(Ab (Dk b 0) (A3 (De 0 b (Am a.1)) (A3 (IJ 0 ((A9 b)-0)
 a.1.length) (A3 (Bk (0+(BA ((A9 b)-0) a.1).length) 96) (A3 (De (Au .i64 b 1) (Am (Iq (.P .S (.P (.P (.I .i64) (.L .Y)) (.P (.P (.I .i64) (.L .Y)) (.P (.I
 .i64) .B)))) 0 ((A9 b)-0) a.1)) (Am (Iq (.P .S (.P (.P (.I .i64) (.L .Y)) (.P (.P (.I .i64) (.L .Y)) (.P (.I .i64) .B)))) 0 ((A9 b)-0) a.1))) (A3 (IJ (A9 (Au
 .i64 b 1)) ((A9 (Am (Iq (.P .S (.P (.P (.I .i64) (.L .Y)) (.P (.P (.I .i64) (.L .Y)) (.P (.I .i64) .B)))) 0 ((A9 b)-0) a.1)))-(A9 (Au .i64 b 1))) (Iq (.P .S (.P
 (.P (.I .i64) (.L .Y)) (.P (.P (.I .i64) (.L .Y)) (.P (.I .i64) .B)))) 0 ((A9 b)-0) a.1).length) (Aa (Ge (.P .S (.P (.P (.I .i64) (.H .Y)) (.P (.P (.I .i64) (.H .Y)) (.P
 (.I .i64) .B)))) (.P .S (.P (.P (.I .i64) (.L .Y)) (.P (.P (.I .i64) (.L .Y)) (.P (.I .i64) .B)))) (BA ((A9 (Am (Iq (.P .S (.P (.P (.I .i64) (.L .Y)) (.P (.P (.I .i64) (.L
 .Y)) (.P (.I .i64) .B)))) 0 ((A9 b)-0) a.1)))-(A9 (Au .i64 b 1))) (E9 (A9 (Au .i64 b 1)) (Iq (.P .S (.P (.P (.I .i64) (.L .Y)) (.P (.P (.I .i64) (.L .Y)) (.P
 (.I .i64) .B)))) 0 ((A9 b)-0) a.1)))) (λc=>(A3 (Bk ((Ax [] (BA ((A9 b)-0) a.1)).length+c.length) 96) (some (.inl ((Ax (Ax [] (BA ((A9
 b)-0) a.1)) c),a.2.1))))))))))) (some (.inl (a.1,a.2.1)))))) (Ab (Ak x.2.1 3) (some (.inl (a.1,x.2.2.2.2.1))) (some (.inl (a.1,a.2.1)))))) (λ(b:Mp)=>
 (AC (Ab (AI x.2.2.2.2.2.1 0) (Aa (Uo (a.2.2,x.2.2.2.2.2)) (λc=>(some (.inl c)))) (some (.inl a.2.2))) (λ(c:IY)=>(Aa (M3 (b.1,
 (b.2,c))) (λf=>(Ab (Ap f) (Aa (RC x.1) (λg=>(some (g,false)))) (some ((b.1,(b.2,c)),true)))))))))))))))))
def NY(x:cy):(Option tqU):=(al 1 (Aa (P5 (x.1.2.1,x.2)) (λc=>(Ab (Ap c.2) (some (false,x.1)) (AC (Ab (Ak x.1.2.2.2
 30) (Ab (Bb x.1.2.2.1 60000) (Aa (L3 (x.1,(Au .i64 x.1.2.2.1 1))) (λa=>(some (.inl a)))) (some (.inl (x.1.1.1,(x.1.1.2.1,(x.1.1.2.2.1,
 (x.1.1.2.2.2,(x.1.2.1.2.1,x.1.2.2)))))))) (some (.inl (x.1.1.1,(x.1.1.2.1,(x.1.1.2.2.1,(x.1.1.2.2.2,(x.1.2.1.2.1,x.1.2.2)))))))) (λ(a:cn)=>(Ab a.2.2.2.1 (some
 (false,((a.1,(a.2.1,(a.2.2.1,a.2.2.2.1))),((x.1.2.1.1,(a.2.2.2.2.1,x.1.2.1.2.2)),a.2.2.2.2.2)))) (Ab (Ak a.2.2.2.2.2.2 30) (some (false,((a.1,(a.2.1,
 (a.2.2.1,a.2.2.2.1))),((x.1.2.1.1,(a.2.2.2.2.1,x.1.2.1.2.2)),a.2.2.2.2.2)))) (Aa (L2 a.2.2.2.2.2) (λd=>(Aa (R5 (a.2.2.2.2.2.1,
 (a.2.2.2.2.2.2,x.2))) (λe=>(Aa (KE ((a.1,(a.2.1,(a.2.2.1,a.2.2.2.1))),(d,e))) (λf=>(Aa (Ka (a.1,f))
 (λb=>(Ab b.2.2.2 (some (false,(b,((x.1.2.1.1,(a.2.2.2.2.1,x.1.2.1.2.2)),a.2.2.2.2.2)))) (some (true,(b,(c.1,(a.2.2.2.2.2.1,(Au .i64
 a.2.2.2.2.2.2 1)))))))))))))))))))))))
def YU(x:K4):l8->Option (l8 ⊕ (l9 ⊕ wV)):=λ(a:l8)=>(Ab (Cr a.2.2.2.2.2.2.2.2.2.2.2 0) (Aa (L0 (x.1.1,(a.1,a.2.1)))
 (λc=>(Aa (NY (((a.2.2.1,(a.2.2.2.1,(a.2.2.2.2.1,a.2.2.2.2.2.1))),((a.2.2.2.2.2.2.1,(a.2.2.2.2.2.2.2.1,a.2.2.2.2.2.2.2.2.1)),
 (a.2.2.2.2.2.2.2.2.2.1,a.2.2.2.2.2.2.2.2.2.2.1))),c.1)) (λb=>(some (.inl (c.2.1,(c.2.2,(b.2.1.1,(b.2.1.2.1,(b.2.1.2.2.1,(b.2.1.2.2.2,(b.2.2.1.1,
 (b.2.2.1.2.1,(b.2.2.1.2.2,(b.2.2.2.1,(b.2.2.2.2,(Br .i64 a.2.2.2.2.2.2.2.2.2.2.2 1)))))))))))))))))) (some (.inr (.inl (a.1,(a.2.1,(a.2.2.1,(a.2.2.2.1,
 (a.2.2.2.2.1,(a.2.2.2.2.2.1,(a.2.2.2.2.2.2.1,(a.2.2.2.2.2.2.2.1,(a.2.2.2.2.2.2.2.2.1,(a.2.2.2.2.2.2.2.2.2.1,a.2.2.2.2.2.2.2.2.2.2.1))))))))))))))
def RE(x:K4):wU:=(Aa (Ue ()) (λb=>(AC (Aa (Ct (x.1,(Au .i64 x.2 1))) (λa=>(Bd
 (YU x) (a.2.1,(a.2.2,(b.1.1,(b.1.2.1,(b.1.2.2.1,(b.1.2.2.2,(b.2.1.1,(b.2.1.2.1,(b.2.1.2.2,(b.2.2.1,(b.2.2.2,a.1)))))))))))))) (λ(a:l9)=>
 (some (((a.2.2.1,(a.2.2.2.1,(a.2.2.2.2.1,a.2.2.2.2.2.1))),((a.2.2.2.2.2.2.1,(a.2.2.2.2.2.2.2.1,a.2.2.2.2.2.2.2.2.1)),a.2.2.2.2.2.2.2.2.2)),(a.1,a.2.1)))))))
def YW(x:K4):WV->Option vw:=λ(a:WV)=>(Ab (Bb a.2.2.2 x.2) (Aa (NZ (x.1.1,(a.1,a.2.1))) (λb=>(A3
 (Bk (a.2.2.1.length+1) 1) (some (.inl (b.2.1,(b.2.2,((Ax a.2.2.1 [(u8 (Az .u8 b.1))]),(Au .i64 a.2.2.2 1))))))))) (some (.inr (.inl (a.1,(a.2.1,
 a.2.2.1))))))
def Kb(x:K4):Rh:=(AC (Bd (YW x) (x.1.2.1,(x.1.2.2,([],0)))) (λ(a:WX)=>(some (a.2.2,(a.1,a.2.1)))))
def YQ(x:FN):lT->Option (lT ⊕ vc):=λ(a:lT)=>(Ab (Cr a.2.2.2.2.2.2 0) (AC (Aa (PF ((x.1,(a.1,a.2.1)),4)) (fun
 b=>(Ab b.1 (Aa (Ka (a.2.2.1,(a.2.2.2.1,(a.2.2.2.2.1,a.2.2.2.2.2.1)))) (λc=>(some (.inl (b.2.1,(b.2.2,(c.1,(c.2.1,(c.2.2.1,
 c.2.2.2))))))))) (Aa (Ct ((x.1,(b.2.1,b.2.2)),(Am a.2.2.1))) (λc=>(Aa (Ct ((x.1,(c.2.1,c.2.2)),4)) (λd=>(Aa
 (Kb ((x.1,(d.2.1,d.2.2)),d.1)) (λe=>(Aa (KE ((a.2.2.1,(a.2.2.2.1,(a.2.2.2.2.1,a.2.2.2.2.2.1))),(c.1,e.1))) (λf=>
 (some (.inl (e.2.1,(e.2.2,(a.2.2.1,(f.1,(f.2.1,f.2.2)))))))))))))))))) (λ(b:cq)=>(some (.inl (b.1,(b.2.1,(b.2.2.1,(b.2.2.2.1,(b.2.2.2.2.1,
 (b.2.2.2.2.2,(Br .i64 a.2.2.2.2.2.2 1))))))))))) (some (.inr (.inl (a.1,(a.2.1,(a.2.2.1,(a.2.2.2.1,(a.2.2.2.2.1,a.2.2.2.2.2.1)))))))))
def XN(x:FN):wA:=(Aa (Ct ((x.1,(x.2.1,x.2.2)),6)) (λc=>(Aa (Ua (Au .i64 2 c.1)) (λb=>(AC
 (Aa (Ct ((x.1,(c.2.1,c.2.2)),8)) (λa=>(Bd (YQ x) (a.2.1,(a.2.2,(b.1,(b.2.1,(b.2.2.1,(b.2.2.2,a.1))))))))) (λ(a:
 cq)=>(some ((a.2.2.1,(a.2.2.2.1,(a.2.2.2.2.1,a.2.2.2.2.2))),(a.1,a.2.1)))))))))
def eY(x:FN)(c:lU):lX->Option (lX ⊕ vc):=λ(a:lX)=>(Aa (Ct ((x.1,(a.1,a.2.1)),3)) (λb=>(Ab
 (Bb (Am a.2.2) (Au .i64 39 b.1)) (A3 (Bk (a.2.2.length+1) 32) (some (.inl (b.2.1,(b.2.2,(Ax a.2.2 [(0,[])])))))) (some (.inr (.inl (b.2.1,(b.2.2,(c.1.1,
 (a.2.2,(c.1.2.2.1,c.1.2.2.2)))))))))))
def R8(x:FN):wA:=(Aa (XN (x.1,(x.2.1,x.2.2))) (λa=>(AC (Aa (Ct ((x.1,(a.2.1,a.2.2)),12)) (λb=>(Ab (Ak b.1 0) (Aa (Ct ((x.1,(b.2.1,b.2.2)),2)) (λc=>(A3 (Ak (Au .i64 120 c.1) (Au .i64 120 c.1)) (A3 (Q7 (Au .i64 120
 c.1) 1) (Aa (idx a.1.1 0) (λd=>(some (.inl (c.2.1,(c.2.2,((BS a.1.1 (A9 0) (GX (A9 (Au .i64 120 c.1)) 0)),(a.1.2.1,(a.1.2.2.1,
 a.1.2.2.2))))))))))))) (Ab (Ak b.1 1) (Aa (E2 ((x.1,(b.2.1,b.2.2)),[(-1),0,99])) (λc=>(Aa (Kb ((x.1,(c.2.1,c.2.2)),2)) (λd=>(A3 (Bk (a.1.2.1.length+1) 32) (some (.inl (d.2.1,(d.2.2,(a.1.1,((Ax a.1.2.1 [(c.1,d.1)]),(a.1.2.2.1,a.1.2.2.2)))))))))))) (Ab (Ak b.1 2) (Bd
 (eY x a) (b.2.1,(b.2.2,a.1.2.1))) (Ab (Ak b.1 3) (Aa (E2 ((x.1,(b.2.1,b.2.2)),[0,1,5,(-2),1001])) (λc=>(some (.inl (c.2.1,
 (c.2.2,(a.1.1,(a.1.2.1,(c.1,a.1.2.2.2))))))))) (Ab (Ak b.1 4) (some (.inl (b.2.1,(b.2.2,(a.1.1,(a.1.2.1,(a.1.2.2.1,true))))))) (Ab (Ak b.1 5) (some (.inl
 (b.2.1,(b.2.2,(a.1.1,(a.1.2.1,(0,a.1.2.2.2))))))) (some (.inl (b.2.1,(b.2.2,(a.1.1,(a.1.2.1,(a.1.2.2.1,a.1.2.2.2))))))))))))))) (λ(b:cq)=>(some
 ((b.2.2.1,(b.2.2.2.1,(b.2.2.2.2.1,b.2.2.2.2.2))),(b.1,b.2.1)))))))
def YS(x:K4):lQ->Option (lQ ⊕ wR):=λ(a:lQ)=>(Ab (Cr a.2.2.2.2.2 0) (Aa (L0 (x.1.1,(a.1,a.2.1))) (λb
 => (Aa (P5 ((a.2.2.1,(a.2.2.2.1,a.2.2.2.2.1)),b.1)) (λc=>(some (.inl (b.2.1,(b.2.2,(c.1.1,(c.1.2.1,(c.1.2.2,(Br .i64 a.2.2.2.2.2
 1)))))))))))) (some (.inr (.inl (a.1,(a.2.1,(a.2.2.1,(a.2.2.2.1,a.2.2.2.2.1))))))))
def XS(x:K4):vi:=(AC (Aa (Ct (x.1,(Au .i64 x.2 1))) (λa=>(Bd (YS x) (a.2.1,(a.2.2,([],(0,([],
 a.1)))))))) (λ(a:lR)=>(some (a.2.2,(a.1,a.2.1)))))
def Uu(x:FN):Rh:=(Aa (Ut ((x.1,(x.2.1,x.2.2)),[[],[97],[98,49],[115,105,120,108,101,116],[115,101,118,101,110,108,101],
 [65],[97,32,98],[0],[104,101,108,108,111]])) (λa=>(some (a.1,(a.2.1,a.2.2)))))
def Yd(x:FN):wG:=(Aa (Ct ((x.1,(x.2.1,x.2.2)),6)) (λa=>(Aa (PH ((x.1,(a.2.1,a.2.2)),(a.1,6))) (λz2=>(Aa (P6 (a.1,z2.1)) (λb=>(some ((b.1.1,b.1.2),(z2.2.1,z2.2.2)))))))))
def XY(x:FN):Pp:=(Aa (E2 ((x.1,(x.2.1,x.2.2)),[0,1,2,3,4,5,6,(-1)])) (λa=>(some (a.1,(a.2.1,a.2.2)))))
def XU(x:(FN×(List UInt8))):Rh:=(A3 (Bk (0+x.2.length) 1) (AC (Aa (Ct ((x.1.1,(x.1.2.1,x.1.2.2)),5)) (λa=>
 (Ab (Ak a.1 0) (Aa (Ct ((x.1.1,(a.2.1,a.2.2)),(Au .i64 (Am (Ax [] x.2)) 1))) (λb=>(A3 (De 0 b.1 (Am (Ax [] x.2))) (Ks (A3
 (IJ 0 ((A9 b.1)-0) (Ax [] x.2).length) (some ((BA ((A9 b.1)-0) (Ax [] x.2)),(b.2.1,b.2.2)))))))) (Ab (Ak a.1 1) (Ab (Cr (Am (Ax [] x.2)) 0) (Aa
 (Ct ((x.1.1,(a.2.1,a.2.2)),(Am (Ax [] x.2)))) (λb=>(Aa (idx (Ax [] x.2) b.1) (λd=>(Aa (Ct ((x.1.1,(b.2.1,
 b.2.2)),255)) (λc=>(Aa (idx (Ax [] x.2) b.1) (λe=>(some (.inl (c.2.1,(c.2.2,(BS (Ax [] x.2) (A9 b.1) (u8 (JD .u8 (Aj d) (Aj
 (u8 (Az .u8 (Au .i64 1 c.1))))))))))))))))))) (some (.inl (a.2.1,(a.2.2,(Ax [] x.2)))))) (some (.inl (a.2.1,(a.2.2,(Ax [] x.2))))))))) (λ(a:WX)=>(some
 (a.2.2,(a.1,a.2.1))))))
def Ya(x:K4):Rh:=(Aa (PH ((x.1.1,(x.1.2.1,x.1.2.2)),(x.2,5))) (λd=>(Aa (Ub (x.2,d.1)) (λc=>
 (Aa (Ct ((x.1.1,(d.2.1,d.2.2)),5)) (λa=>(Ab (Ak a.1 0) (Aa (XU ((x.1.1,(a.2.1,a.2.2)),c.1)) (λb=>(some (b.1,
 (b.2.1,b.2.2))))) (Ab (Ak a.1 1) (Aa (E2 ((x.1.1,(a.2.1,a.2.2)),[128,129,164,255,194,157])) (λb=>(A3 (Bk (c.1.length+1) 1) (some
 ((Ax c.1 [(u8 (Az .u8 b.1))]),(b.2.1,b.2.2)))))) (some (c.1,(a.2.1,a.2.2)))))))))))
def Uw(x:FN):wG:=(Aa (Yd (x.1,(x.2.1,x.2.2))) (λc=>(AC (Aa (Ct ((x.1,(c.2.1,c.2.2)),6)) (λa
 => (Ab (Ak a.1 0) (Aa (XY (x.1,(a.2.1,a.2.2))) (λb=>(some (.inl (b.2.1,(b.2.2,(b.1,c.1.2))))))) (Ab (Ak a.1 1) (Aa (Ya ((x.1,
 (a.2.1,a.2.2)),c.1.1)) (λb=>(some (.inl (b.2.1,(b.2.2,(c.1.1,b.1))))))) (Ab (Ak a.1 2) (Aa (Ct ((x.1,(a.2.1,a.2.2)),3)) (λb=>(A3 (Ak (Au .i64 19 b.1) (Au .i64 19 b.1)) (A3 (Q7 (Au .i64 19 b.1) 1) (some (.inl (b.2.1,(b.2.2,(c.1.1,(GX (A9 (Au .i64 19 b.1)) 0))))))))))
 (some (.inl (a.2.1,(a.2.2,(c.1.1,c.1.2)))))))))) (λ(a:(Int×WX))=>(some ((a.2.2.1,a.2.2.2),(a.1,a.2.1)))))))
def Ux(x:FN):vv:=(Aa (Uy x) (λa=>(AC (Aa (Ct ((x.1,a.2),14)) (λb=>(Ab (Ak b.1 0) (Aa
 (Uu (x.1,b.2)) (λc=>(some (.inl (c.2.1,(c.2.2,(c.1,(a.1.2.1.1,(a.1.2.1.2,(a.1.2.2.1.1,(a.1.2.2.1.2,a.1.2.2.2))))))))))) (Ab (Ak b.1 1)
 (Aa (E2 ((x.1,b.2),[0,1,2,3,4,(-1)])) (λc=>(some (.inl (c.2.1,(c.2.2,(a.1.1,(a.1.2.1.1,(a.1.2.1.2,(a.1.2.2.1.1,(a.1.2.2.1.2,(c.1,
 a.1.2.2.2.2)))))))))))) (Ab (Ak b.1 2) (some (.inl (b.2.1,(b.2.2,(a.1.1,(a.1.2.1.1,(a.1.2.1.2,(a.1.2.2.1.1,(a.1.2.2.1.2,(a.1.2.2.2.1,(Ap
 a.1.2.2.2.2))))))))))) (Ab (Ak b.1 3) (Aa (Uw (x.1,b.2)) (λc=>(some (.inl (c.2.1,(c.2.2,(a.1.1,(c.1.1,(c.1.2,(a.1.2.2.1.1,(a.1.2.2.1.2,
 a.1.2.2.2))))))))))) (Ab (Ak b.1 4) (Aa (Uw (x.1,b.2)) (λc=>(some (.inl (c.2.1,(c.2.2,(a.1.1,(a.1.2.1.1,(a.1.2.1.2,(c.1.1,(c.1.2,
 a.1.2.2.2))))))))))) (Ab (Ak b.1 5) (some (.inl (b.2.1,(b.2.2,(a.1.1,(a.1.2.1.1,([(u8 129)],(a.1.2.2.1.1,(a.1.2.2.1.2,a.1.2.2.2))))))))) (some (.inl (b.2.1,
 (b.2.2,(a.1.1,(a.1.2.1.1,(a.1.2.1.2,(a.1.2.2.1.1,(a.1.2.2.1.2,a.1.2.2.2))))))))))))))))) (λ(b:(Int×(Int×lV)))=>(some ((b.2.2.1,((b.2.2.2.1,
 b.2.2.2.2.1),((b.2.2.2.2.2.1,b.2.2.2.2.2.2.1),b.2.2.2.2.2.2.2))),(b.1,b.2.1)))))))
def Us(x:FN):Pp:=(Aa (E2 (x,[0,1,7,255,256,4660,65535,65536,(-1),9223372036854775807,(-9223372036854775808)])) (λa
 => (some a)))
def YR(c:ck)(b:I3):Mp->Option (Mp ⊕ wR):=λ(a:Mp)=>(Ab (Bb a.2 7) (A3 (small [122] [(u8 (Az .u8 (Au .i64 48
 a.2)))]) (A3 (Bk (a.1.length+1) 96) (some (.inl ((Ax a.1 [((Ax [122] [(u8 (Az .u8 (Au .i64 48 a.2)))]),((0,[]),((0,[(u8 120)]),(2,false))))]),(Au .i64
 a.2 1)))))) (some (.inr (.inl (b.2.1,(b.2.2,(a.1,c.1.2)))))))
def XQ(x:K4):vi:=(Aa (XS x) (λb=>(AC (Aa (Ct ((x.1.1,b.2),10)) (λa=>(Ab (Ak a.1 0) (Aa
 (Ux (x.1.1,a.2)) (λc=>(A3 (Bk (b.1.1.length+1) 96) (some (.inl (c.2.1,(c.2.2,((Ax b.1.1 [c.1]),b.1.2)))))))) (Ab (Ak a.1 1) (Aa
 (E2 ((x.1.1,a.2),[(-1),7,8])) (λc=>(some (.inl (c.2.1,(c.2.2,(b.1.1,(c.1,b.1.2.2)))))))) (Ab (Ak a.1 2) (al 3 (Aa (E2 ((x.1.1,
 a.2),[0,1,9,10])) (λc=>(Aa (Us (x.1.1,c.2)) (λe=>(Aa (E2 ((x.1.1,e.2),[0,6,7])) (λd=>(A3 (Bk
 (b.1.2.2.length+1) 24) (some (.inl (d.2.1,(d.2.2,(b.1.1,(b.1.2.1,(Ax b.1.2.2 [(c.1,(e.1,d.1))]))))))))))))))) (Ab (Ak a.1 3) (Bd (YR b a)
 (b.1.1,0)) (some (.inl (a.2.1,(a.2.2,b.1)))))))))) (λ(a:lR)=>(some (a.2.2,(a.1,a.2.1)))))))
def RD(x:K4):wU:=(Aa (RE x) (λa=>(AC (Aa (Ct ((x.1.1,a.2),14)) (λb=>(Ab (Ak b.1 0) (Aa
 (R8 (x.1.1,b.2)) (λc=>(some (.inl (c.2.1,(c.2.2,(c.1.1,(c.1.2.1,(c.1.2.2.1,(c.1.2.2.2,(a.1.2.1.1,(a.1.2.1.2.1,(a.1.2.1.2.2,
 a.1.2.2))))))))))))) (Ab (Ak b.1 1) (Aa (XQ ((x.1.1,b.2),4)) (λc=>(some (.inl (c.2.1,(c.2.2,(a.1.1.1,(a.1.1.2.1,(a.1.1.2.2.1,
 (a.1.1.2.2.2,(c.1.1,(c.1.2.1,(c.1.2.2,a.1.2.2))))))))))))) (Ab (Ak b.1 2) (Aa (E2 ((x.1.1,b.2),[0,59999,60000,60001,(-1)])) (λc=>(some
 (.inl (c.2.1,(c.2.2,(a.1.1.1,(a.1.1.2.1,(a.1.1.2.2.1,(a.1.1.2.2.2,(a.1.2.1.1,(a.1.2.1.2.1,(a.1.2.1.2.2,(c.1,a.1.2.2.2)))))))))))))) (Ab (Ak b.1 3) (Aa
 (E2 ((x.1.1,b.2),[(-1),30,31])) (λc=>(some (.inl (c.2.1,(c.2.2,(a.1.1.1,(a.1.1.2.1,(a.1.1.2.2.1,(a.1.1.2.2.2,(a.1.2.1.1,(a.1.2.1.2.1,
 (a.1.2.1.2.2,(a.1.2.2.1,c.1)))))))))))))) (AC (Ab (Ak b.1 4) (some (.inl true)) (some (.inl (Ak b.1 5)))) (λ(c:Bool)=>(Ab c (Aa (E2 ((x.1.1,b.2),
 [0,1,2,5])) (λd=>(some (.inl (d.2.1,(d.2.2,(a.1.1.1,(a.1.1.2.1,(d.1,(a.1.1.2.2.2,(a.1.2.1.1,(a.1.2.1.2.1,(a.1.2.1.2.2,a.1.2.2)))))))))))))
 (Ab (Ak b.1 6) (some (.inl (b.2.1,(b.2.2,(a.1.1.1,(a.1.1.2.1,(a.1.1.2.2.1,(true,(a.1.2.1.1,(a.1.2.1.2.1,(a.1.2.1.2.2,a.1.2.2))))))))))) (some (.inl (b.2.1,
 (b.2.2,(a.1.1.1,(a.1.1.2.1,(a.1.1.2.2.1,(a.1.1.2.2.2,(a.1.2.1.1,(a.1.2.1.2.1,(a.1.2.1.2.2,a.1.2.2))))))))))))))))))))) (λ(b:l9)=>(some (((b.2.2.1,
 (b.2.2.2.1,(b.2.2.2.2.1,b.2.2.2.2.2.1))),((b.2.2.2.2.2.2.1,(b.2.2.2.2.2.2.2.1,b.2.2.2.2.2.2.2.2.1)),b.2.2.2.2.2.2.2.2.2)),(b.1,b.2.1)))))))
def XG(x:(List UInt8)):Pq:=(Aa (Oa x) (λa=>(Aa (RD ((x,(0,a)),6)) (λb=>(some b.1)))))
def XO(x:FN):vf:=(Aa (L0 x) (λa=>(AC (Aa (Ct ((x.1,a.2),14)) (λc=>(Ab (Ak c.1 0) (Aa
 (Ct ((x.1,c.2),6)) (λb=>(some (.inl (b.2.1,(b.2.2,(b.1,(a.1.2.1.1,(a.1.2.1.2.1.1,(a.1.2.1.2.1.2,(a.1.2.1.2.2.1.1,(a.1.2.1.2.2.1.2,
 (a.1.2.1.2.2.2.1,(a.1.2.1.2.2.2.2,a.1.2.2)))))))))))))) (Ab (Ak c.1 1) (Aa (Ux (x.1,c.2)) (λb=>(some (.inl (b.2.1,(b.2.2,(a.1.1,(b.1.1,
 (b.1.2.1.1,(b.1.2.1.2,(b.1.2.2.1.1,(b.1.2.2.1.2,(b.1.2.2.2.1,(b.1.2.2.2.2,a.1.2.2)))))))))))))) (Ab (Ak c.1 2) (Aa (Uu (x.1,c.2)) (λb=>
 (some (.inl (b.2.1,(b.2.2,(a.1.1,(a.1.2.1.1,(a.1.2.1.2.1.1,(a.1.2.1.2.1.2,(a.1.2.1.2.2.1.1,(a.1.2.1.2.2.1.2,(a.1.2.1.2.2.2.1,(a.1.2.1.2.2.2.2,(b.1,
 a.1.2.2.2))))))))))))))) (Ab (Ak c.1 3) (Aa (E2 ((x.1,c.2),[(-1),7,8])) (λb=>(some (.inl (b.2.1,(b.2.2,(a.1.1,(a.1.2.1.1,(a.1.2.1.2.1.1,
 (a.1.2.1.2.1.2,(a.1.2.1.2.2.1.1,(a.1.2.1.2.2.1.2,(a.1.2.1.2.2.2.1,(a.1.2.1.2.2.2.2,(a.1.2.2.1,(b.1,a.1.2.2.2.2)))))))))))))))) (Ab (Ak c.1 4) (Aa (E2
 ((x.1,c.2),[(-1),0,9,10])) (λb=>(some (.inl (b.2.1,(b.2.2,(a.1.1,(a.1.2.1.1,(a.1.2.1.2.1.1,(a.1.2.1.2.1.2,(a.1.2.1.2.2.1.1,(a.1.2.1.2.2.1.2,
 (a.1.2.1.2.2.2.1,(a.1.2.1.2.2.2.2,(a.1.2.2.1,(a.1.2.2.2.1,(b.1,a.1.2.2.2.2.2))))))))))))))))) (Ab (Ak c.1 5) (Aa (Us (x.1,c.2)) (λb=>(some
 (.inl (b.2.1,(b.2.2,(a.1.1,(a.1.2.1.1,(a.1.2.1.2.1.1,(a.1.2.1.2.1.2,(a.1.2.1.2.2.1.1,(a.1.2.1.2.2.1.2,(a.1.2.1.2.2.2.1,(a.1.2.1.2.2.2.2,(a.1.2.2.1,
 (a.1.2.2.2.1,(a.1.2.2.2.2.1,(b.1,a.1.2.2.2.2.2.2)))))))))))))))))) (Ab (Ak c.1 6) (Aa (E2 ((x.1,c.2),[(-1),6,7])) (λb=>(some (.inl (b.2.1,
 (b.2.2,(a.1.1,(a.1.2.1.1,(a.1.2.1.2.1.1,(a.1.2.1.2.1.2,(a.1.2.1.2.2.1.1,(a.1.2.1.2.2.1.2,(a.1.2.1.2.2.2.1,(a.1.2.1.2.2.2.2,(a.1.2.2.1,(a.1.2.2.2.1,
 (a.1.2.2.2.2.1,(a.1.2.2.2.2.2.1,b.1)))))))))))))))))) (some (.inl (c.2.1,(c.2.2,(a.1.1,(a.1.2.1.1,(a.1.2.1.2.1.1,(a.1.2.1.2.1.2,(a.1.2.1.2.2.1.1,
 (a.1.2.1.2.2.1.2,(a.1.2.1.2.2.2.1,(a.1.2.1.2.2.2.2,a.1.2.2))))))))))))))))))))) (λ(c:(Int×(Int×(Int×((List UInt8)×(Int×((List UInt8)×(Int×((List UInt8)
 × (Int×(Bool×((List UInt8)×(Int×I3)))))))))))))=>(some ((c.2.2.1,((c.2.2.2.1,((c.2.2.2.2.1,c.2.2.2.2.2.1),((c.2.2.2.2.2.2.1,c.2.2.2.2.2.2.2.1),
 (c.2.2.2.2.2.2.2.2.1,c.2.2.2.2.2.2.2.2.2.1)))),c.2.2.2.2.2.2.2.2.2.2)),(c.1,c.2.1)))))))
def X9(x:(List UInt8)):(Option cy):=(Aa (Oa x) (λe=>(Aa (E2 ((x,(0,e)),[6,6,34])) (λd=>(Aa
 (RD ((x,d.2),d.1)) (λa=>(Aa (PF ((x,a.2),4)) (λb=>(Ab b.1 (Aa (XO (x,b.2)) (λc=>(some (a.1,
 c.1)))) (Aa (L0 (x,b.2)) (λc=>(some (a.1,c.1)))))))))))))
def PS(x:Hu):Fc->Option (Fc ⊕ ((List UInt8) ⊕ (List UInt8))):=λ(a:Fc)=>(Ab (Bb a.2 (Am x)) (Aa (idx x a.2) (λb=>(A3 (Bk (a.1.length+b.length) 1) (some (.inl ((Ax a.1 b),(Au .i64 a.2 1))))))) (some (.inr (.inl a.1))))
def Hg(x:Hu):He:=(AC (Bd (PS x) ([],0)) (λ(a:(List UInt8))=>(some a)))
def YC(x:Ez):NI->Option cl:=λ(a:NI)=>(Ab (Bb a.2 (Am x.1)) (Aa (idx x.1 a.2) (λb=>(Aa (Hg
 [b]) (λc=>(A3 (Bk (a.1.length+1) 24) (some (.inl ((Ax a.1 [c]),(Au .i64 a.2 1))))))))) (some (.inr (.inl a.1))))
def YD(x:Ez):WW->Option vm:=λ(a:WW)=>(Ab (Bb a.2 (Am x.2.1)) (Aa (idx x.2.1 a.2) (λb=>(Aa (Hg
 [b.2]) (λc=>(A3 (Bk (a.1.length+1) 32) (some (.inl ((Ax a.1 [(b.1,c)]),(Au .i64 a.2 1))))))))) (some (.inr (.inl a.1))))
def Lx(x:Ez):Po:=(AC (Bd (YC x) ([],0)) (λ(a:Hu)=>(AC (Bd (YD x) ([],0)) (λ(b:JS)=>(some
 (a,(b,(x.2.2.1,x.2.2.2))))))))
def TT(x:Fb):(Option Fb):=(Aa (Hg [x.2]) (λa=>(some (x.1,a))))
def NU(x:GK):co:=(Aa (TT x.2.1) (λa=>(Aa (TT x.2.2.1) (λb=>(some (x.1,(a,(b,
 x.2.2.2))))))))
def xW(x:Fm):Mp->Option wQ:=λ(c:Mp)=>(Ab (Bb c.2 (Am x.1)) (Aa (idx x.1 c.2) (λa=>(Aa (NU (a.1,
 ((a.2.1.1,a.2.1.2),((a.2.2.1.1,a.2.2.1.2),(a.2.2.2.1,a.2.2.2.2))))) (λb=>(A3 (Bk (c.1.length+1) 96) (some (.inl ((Ax c.1 [(b.1,((b.2.1.1,
 b.2.1.2),((b.2.2.1.1,b.2.2.1.2),(b.2.2.2.1,b.2.2.2.2))))]),(Au .i64 c.2 1))))))))) (some (.inr (.inl c.1))))
def Rz(x:Fm):vo:=(al 2 (A3 (Bk (0+x.2.2.length) 24) (AC (Bd (xW x) ([],0)) (λ(a:G3)=>(some (a,(x.2.1,(Ax []
 x.2.2))))))))
def Ry(x:J0):Pq:=(Aa (Lx x.1) (λa=>(Aa (Rz x.2.1) (λb=>(some (a,(b,x.2.2)))))))
def KC(x:cu):Dx:=(Ab (Ak x.1.1 x.2.1) (some (Dc x.1.2 x.2.2)) (some false))
def X3(x:ve):Dx:=(Ab (Dc x.1.1 x.2.1) (Aa (KC ((x.1.2.1.1,x.1.2.1.2),(x.2.2.1.1,x.2.2.1.2))) (λa=>(Ab a (Aa
 (KC ((x.1.2.2.1.1,x.1.2.2.1.2),(x.2.2.2.1.1,x.2.2.2.1.2))) (λb=>(Ab b (Ab (Ak x.1.2.2.2.1 x.2.2.2.2.1) (some (MT x.1.2.2.2.2 x.2.2.2.2.2)) (some
 false)) (some false)))) (some false)))) (some false))
def D0(x:I3):Dx:=(Ab (Dk x.1 x.2.1) (some (Ck x.1 x.2.2)) (some false))
def xV(x:(List UInt8)):(Int)->Option Ls:=λ(a:Int)=>(Ab (Bb a (Am x)) (Aa (idx x a) (λb=>(Aa (D0 ((Az
 .i64 (Aj b)),(97,122))) (λc=>(Ab (Ap c) (Aa (idx x a) (λd=>(Aa (D0 ((Az .i64 (Aj d)),(48,57))) (λe=>(Ab
 (Ap e) (some (.inr (.inr false))) (some (.inl (Au .i64 a 1)))))))) (some (.inl (Au .i64 a 1)))))))) (some (.inr (.inl ()))))
def TP(x:(List UInt8)):Dx:=(AC (Bd (xV x) 0) (λ(b:Unit)=>(Aa (D0 ((Am x),(1,6))) (λa=>(some
 a)))))
def X1(x:Int):Dx:=(Aa (D0 (x,(0,5))) (λa=>(some a)))
def TK(x:Fb):Dx:=(Aa (X1 x.1) (λa=>(Ab a (some (Ck (Am x.2) 20)) (some false))))
def M6(x:(List UInt8)):(Option (Int×Int)):=(Ab (Bb (Am x) 1) (some (65533,0)) (Aa (idx x 0) (λb=>(A3 (Ck 0 (Aj
 b)) (A3 (Bb (Aj b) 256) (Aa (idx OB (Int.ofNat (0+((A9 (Aj b))*1)))) (λa=>(Ab (Dk (Aj a) (Aj (u8 240))) (Aa (idx x 0) (λe=>
 (some ((BM .i32 (iH .i32 (Az .i32 (Aj e)) (Cl .i32 (C9 .i32 (Az .i32 (Aj a)) 31) 31)) (Bg .i32 65533 (Cl .i32 (C9 .i32 (Az .i32 (Aj a)) 31) 31))),
 1)))) (A3 (Ck 0 (Aj (u8 (Cl .u8 (Aj a) 4)))) (A3 (Bb (Aj (u8 (Cl .u8 (Aj a) 4))) 16) (Aa (idx S5 (Int.ofNat (0+((A9 (Aj (u8 (Cl .u8 (Aj a) 4))))*2))))
 (λe=>(Aa (idx S5 (Int.ofNat ((0+((A9 (Aj (u8 (Cl .u8 (Aj a) 4))))*2))+1))) (λg=>(Ab (Bb (Am x) (Az .i64 (Aj (u8 (Bg .u8
 (Aj a) (Aj (u8 7))))))) (some (65533,1)) (Aa (idx x 1) (λc=>(Ab (Bb (Aj c) (Aj e)) (some (65533,1)) (Ab (Bb (Aj g) (Aj c)) (some (65533,1))
 (Ab (Ck (Az .i64 (Aj (u8 (Bg .u8 (Aj a) (Aj (u8 7)))))) 2) (some ((BM .i32 (C9 .i32 (Az .i32 (Aj (u8 (Bg .u8 (Aj b) (Aj (u8 31)))))) 6) (Az .i32 (Aj
 (u8 (Bg .u8 (Aj c) (Aj (u8 63))))))),2)) (Aa (idx x 2) (λd=>(Ab (Bb (Aj d) (Aj (u8 128))) (some (65533,1)) (Ab (Bb (Aj (u8 191)) (Aj d)) (some
 (65533,1)) (Ab (Ck (Az .i64 (Aj (u8 (Bg .u8 (Aj a) (Aj (u8 7)))))) 3) (some ((BM .i32 (BM .i32 (C9 .i32 (Az .i32 (Aj (u8 (Bg .u8 (Aj b) (Aj (u8 15))))))
 12) (C9 .i32 (Az .i32 (Aj (u8 (Bg .u8 (Aj c) (Aj (u8 63)))))) 6)) (Az .i32 (Aj (u8 (Bg .u8 (Aj d) (Aj (u8 63))))))),3)) (Aa (idx x 3) (λf=>
 (Ab (Bb (Aj f) (Aj (u8 128))) (some (65533,1)) (Ab (Bb (Aj (u8 191)) (Aj f)) (some (65533,1)) (some ((BM .i32 (BM .i32 (BM .i32 (C9 .i32 (Az .i32 (Aj (u8
 (Bg .u8 (Aj b) (Aj (u8 7)))))) 18) (C9 .i32 (Az .i32 (Aj (u8 (Bg .u8 (Aj c) (Aj (u8 63)))))) 12)) (C9 .i32 (Az .i32 (Aj (u8 (Bg .u8 (Aj d) (Aj (u8
 63)))))) 6)) (Az .i32 (Aj (u8 (Bg .u8 (Aj f) (Aj (u8 63))))))),4)))))))))))))))))))))))))))))))
def UT(x:(List UInt8)):(Int)->Option ((Int) ⊕ (Unit ⊕ (Int×Int))):=λ(a:Int)=>(Ab (Bb a (Am x)) (Aa (idx x a) (λb=>(Ab (Bb (Aj b) (Aj (u8 128))) (some (.inr (.inr ((Az .i32 (Aj b)),1)))) (some (.inr (.inl ())))))) (some (.inr (.inl ()))))
def Yf(x:(List UInt8)):(Option (Int×Int)):=(AC (Bd (UT x) 0) (λ(b:Unit)=>(Aa (M6 x) (fun
 a=>(some (a.1,a.2))))))
def Xx(x:Fc):IX:=(Ab (Bb x.2 0) (some (0,(0,false))) (Ab (Dk x.2 (Am x.1)) (some (0,(0,false))) (A3 (De x.2 (Am x.1) (Am x.1))
 (A3 (QI (A9 x.2) (BA ((A9 (Am x.1))-(A9 x.2)) (E9 (A9 x.2) x.1)).length) (Aa (Yf (BA ((A9 (Am x.1))-(A9 x.2)) (E9 (A9 x.2) x.1)))
 (λa=>(Ab (Ak a.1 65533) (Ab (Bb a.2 2) (some (0,(0,false))) (some ((Az .i64 a.1),((Au .i64 x.2 a.2),true)))) (some ((Az .i64 a.1),
 ((Au .i64 x.2 a.2),true))))))))))
def dM(x:(Int×Int)):WY:=(Ab (Ak x.1 164) (Aa (D0 (x.2,(161,243))) (λa=>(Ab a (some ((Br .i64 (Au .i64 12353
 x.2) 161),true)) (Ab (Ak x.1 165) (Aa (D0 (x.2,(161,246))) (λb=>(Ab b (some ((Br .i64 (Au .i64 12449 x.2) 161),true)) (some (0,false)))))
 (some (0,false)))))) (Ab (Ak x.1 165) (Aa (D0 (x.2,(161,246))) (λa=>(Ab a (some ((Br .i64 (Au .i64 12449 x.2) 161),true)) (some (0,false)))))
 (some (0,false))))
def Xv(x:Fc):IX:=(Ab (Bb x.2 0) (some (0,(0,false))) (Ab (Dk x.2 (Am x.1)) (some (0,(0,false))) (Aa (idx x.1 x.2) (λc=>
 (Ab (Ck (Aj c) (Aj (u8 127))) (Aa (idx x.1 x.2) (λa=>(some ((Az .i64 (Aj a)),((Au .i64 x.2 1),true))))) (Ab (Ak (Au .i64 x.2 1) (Am x.1))
 (some (0,(0,false))) (Aa (idx x.1 x.2) (λa=>(Aa (idx x.1 (Au .i64 x.2 1)) (λd=>(Aa (dM ((Az .i64 (Aj a)),(Az .i64 (Aj
 d)))) (λb=>(Ab (Ap b.2) (some (0,(0,false))) (some (b.1,((Au .i64 x.2 2),true))))))))))))))))
def mJ(x:Int):(Option Int):=(Ab (Ak x 164) (some 8364) (Ab (Ak x 166) (some 352) (Ab (Ak x 168) (some 353) (Ab (Ak x 180) (some 381) (Ab
 (Ak x 184) (some 382) (Ab (Ak x 188) (some 338) (Ab (Ak x 189) (some 339) (Ab (Ak x 190) (some 376) (some x)))))))))
def mI(x:Int):(Option Int):=(Ab (Dk x 224) (A3 (Ck 0 (Br .i64 x 224)) (A3 (Bb (Br .i64 x 224) 32) (Aa (idx [1102,1072,1073,1094,1076,
 1077,1092,1075,1093,1080,1081,1082,1083,1084,1085,1086,1087,1103,1088,1089,1090,1091,1078,1074,1100,1099,1079,1096,1101,1097,1095,1098] (Int.ofNat (0 +
 ((A9 (Br .i64 x 224))*1)))) (λa=>(some (Br .i64 a 32)))))) (Ab (Dk x 192) (A3 (Ck 0 (Br .i64 x 192)) (A3 (Bb (Br .i64 x 192) 32) (Aa (idx [1102,
 1072,1073,1094,1076,1077,1092,1075,1093,1080,1081,1082,1083,1084,1085,1086,1087,1103,1088,1089,1090,1091,1078,1074,1100,1099,1079,1096,1101,1097,
 1095,1098] (Int.ofNat (0+((A9 (Br .i64 x 192))*1)))) (λa=>(some a))))) (Ab (Ak x 163) (some 1105) (Ab (Ak x 179) (some 1025) (some 0)))))
def mK(x:Int):(Option Int):=(Ab (Dk x 160) (some x) (A3 (Ck 0 (Br .i64 x 128)) (A3 (Bb (Br .i64 x 128) 32) (Aa (idx [8364,0,8218,402,
 8222,8230,8224,8225,710,8240,352,8249,338,0,381,0,0,8216,8217,8220,8221,8226,8211,8212,732,8482,353,8250,339,0,382,376] (Int.ofNat (0+((A9 (Br
 .i64 x 128))*1)))) (λa=>(some a))))))
def P0(x:(Int×Int)):WY:=(Aa (D0 (x.1,(1,4))) (λb=>(Ab (Ap b) (some (0,false)) (Aa (D0 (x.2,(0,255)))
 (λc=>(Ab (Ap c) (some (0,false)) (Ab (Ck x.2 127) (some (x.2,true)) (AC (Ab (Ak x.1 2) (Aa (mJ x.2) (λa=>(some (.inl a))))
 (Ab (Ak x.1 3) (Aa (mI x.2) (λa=>(some (.inl a)))) (Ab (Ak x.1 4) (Aa (mK x.2) (λa=>(some (.inl a)))) (some (.inl x.2)))))
 (λ(a:Int)=>(some (a,(AI a 0))))))))))))
def X5(x:dA):IX:=(Ab (Ak x.1 0) (Aa (Xx (x.2.1,x.2.2)) (λa=>(some (a.1,(a.2.1,a.2.2))))) (Ab (Ak x.1 5) (Aa
 (Xv (x.2.1,x.2.2)) (λa=>(some (a.1,(a.2.1,a.2.2))))) (Aa (idx x.2.1 x.2.2) (λa=>(Aa (P0 (x.1,(Az .i64 (Aj a))))
 (λb=>(some (b.1,((Au .i64 x.2.2 1),b.2)))))))))
def dO(x:Int):Dx:=(Aa (D0 (x,(0,1114111))) (λa=>(Ab a (Aa (D0 (x,(55296,57343))) (λb=>(some
 (Ap b)))) (some false))))
def dV(x:Fc):He:=(Ab (Ck (Az .u32 x.2) 2047) (A3 (Bk (x.1.length+2) 1) (some (Ax x.1 [(u8 (BM .u8 (Aj (u8 192)) (Aj
 (u8 (Az .u8 (Cl .i32 x.2 6)))))),(u8 (BM .u8 (Aj (u8 128)) (Aj (u8 (Bg .u8 (Aj (u8 (Az .u8 x.2))) (Aj (u8 63)))))))]))) (AC (Ab (Bb (Az .u32 x.2) 55296)
 (some (.inl true)) (Ab (Bb 57343 (Az .u32 x.2)) (some (.inl (Ck (Az .u32 x.2) 65535))) (some (.inl false)))) (λ(a:Bool)=>(Ab a (A3 (Bk (x.1.length+3) 1)
 (some (Ax x.1 [(u8 (BM .u8 (Aj (u8 224)) (Aj (u8 (Az .u8 (Cl .i32 x.2 12)))))),(u8 (BM .u8 (Aj (u8 128)) (Aj (u8 (Bg .u8 (Aj (u8 (Az .u8 (Cl .i32 x.2 6))))
 (Aj (u8 63))))))),(u8 (BM .u8 (Aj (u8 128)) (Aj (u8 (Bg .u8 (Aj (u8 (Az .u8 x.2))) (Aj (u8 63)))))))]))) (Ab (Cr (Az .u32 x.2) 65535) (Ab (Ck (Az .u32 x.2)
 1114111) (A3 (Bk (x.1.length+4) 1) (some (Ax x.1 [(u8 (BM .u8 (Aj (u8 240)) (Aj (u8 (Az .u8 (Cl .i32 x.2 18)))))),(u8 (BM .u8 (Aj (u8 128)) (Aj (u8 (Bg .u8
 (Aj (u8 (Az .u8 (Cl .i32 x.2 12)))) (Aj (u8 63))))))),(u8 (BM .u8 (Aj (u8 128)) (Aj (u8 (Bg .u8 (Aj (u8 (Az .u8 (Cl .i32 x.2 6)))) (Aj (u8 63))))))),(u8 (BM
 .u8 (Aj (u8 128)) (Aj (u8 (Bg .u8 (Aj (u8 (Az .u8 x.2))) (Aj (u8 63)))))))]))) (A3 (Bk (x.1.length+3) 1) (some (Ax x.1 [(u8 239),(u8 191),(u8 189)])))) (A3
 (Bk (x.1.length+3) 1) (some (Ax x.1 [(u8 239),(u8 191),(u8 189)]))))))))
def dU(x:Fc):He:=(Ab (Ck (Az .u32 x.2) 127) (A3 (Bk (x.1.length+1) 1) (some (Ax x.1 [(u8 (Az .u8 x.2))]))) (Aa
 (dV (x.1,x.2)) (λa=>(some a))))
def Xz(x:Fc):He:=(Aa (Hg [x.1]) (λa=>(Aa (dO x.2) (λb=>(Ab (Ap b) (some a) (Aa
 (dU (a,(Az .i32 x.2))) (λc=>(some c))))))))
def eF(x:Fb):Fc->Option lW:=λ(a:Fc)=>(Ab (Bb a.2 (Am x.2)) (Aa (X5 (x.1,(x.2,a.2))) (λb=>(Ab (Ap
 b.2.2) (some (.inr (.inr ([],false)))) (Aa (Xz (a.1,b.1)) (λc=>(some (.inl (c,b.2.1)))))))) (some (.inr (.inl a.1))))
def Xt(x:Fb):Rj:=(Aa (X1 x.1) (λa=>(Ab (Ap a) (some ([],false)) (AC (Bd (eF x) ([],0)) (λ(b:
 (List UInt8))=>(some (b,true)))))))
def P1(x:Fb):Rj:=(Aa (TK (x.1,x.2)) (λb=>(Ab (Ap b) (some ([],false)) (Aa (Xt (x.1,x.2)) (λa
 => (some (a.1,a.2)))))))
def dN(x:cu):Dx:=(Aa (P1 (x.1.1,x.1.2)) (λa=>(Aa (P1 (x.2.1,x.2.2)) (λb=>(Ab a.2 (Ab
 b.2 (some (Dc a.1 b.1)) (some false)) (some false))))))
def KB(x:GK):Dx:=(Aa (TP x.1) (λb=>(Ab (Ap b) (some false) (Aa (D0 (x.2.2.2.1,(1,3))) (λc=>
 (Ab (Ap c) (some false) (Aa (P1 (x.2.1.1,x.2.1.2)) (λd=>(Aa (P1 (x.2.2.1.1,x.2.2.1.2)) (λe=>(Aa (KC
 ((x.2.1.1,x.2.1.2),(0,[]))) (λf=>(AC (Ab (AI x.2.2.2.1 2) (Aa (TK (x.2.1.1,x.2.1.2)) (λa=>(Ab a (Ab (AI x.2.1.1 0) (Ab d.2
 (some (.inl true)) (Ab x.2.2.2.2 (some (.inl (Ak x.2.2.2.1 1))) (some (.inl false)))) (some (.inl false))) (some (.inl false))))) (some (.inl f))) (λ(a:Bool)=>(Aa
 (KC ((x.2.2.1.1,x.2.2.1.2),(0,[]))) (λg=>(AC (Ab (AI x.2.2.2.1 1) (Ab (Ak x.2.2.1.1 0) (some (.inl e.2)) (some (.inl false))) (some (.inl
 g))) (λ(h:Bool)=>(Ab a (Ab h (Ab (AI x.2.2.2.1 3) (some true) (Aa (dN ((x.2.1.1,x.2.1.2),(x.2.2.1.1,x.2.2.1.2))) (λi=>(some i))))
 (some false)) (some false))))))))))))))))))))
def My(x:Int):Dx:=(Aa (D0 (x,(0,65535))) (λa=>(some a)))
def NT(x:K3):Dx:=(Aa (X3 ((x.2.1.1,((x.2.1.2.1.1,x.2.1.2.1.2),((x.2.1.2.2.1.1,x.2.1.2.2.1.2),(x.2.1.2.2.2.1,x.2.1.2.2.2.2)))),([],
 ((0,[]),((0,[]),(0,false)))))) (λb=>(AC (Ab (Ak x.1 1) (Aa (KB (x.2.1.1,((x.2.1.2.1.1,x.2.1.2.1.2),((x.2.1.2.2.1.1,x.2.1.2.2.1.2),
 (x.2.1.2.2.2.1,x.2.1.2.2.2.2))))) (λa=>(Ab a (Ab (Dc x.2.2.1 []) (some (.inl (Ak x.2.2.2.1 0))) (some (.inl false))) (some (.inl false))))) (Ab (Ak x.1 2)
 (Ab b (Aa (TP x.2.2.1) (λa=>(Ab a (some (.inl (Ak x.2.2.2.1 0))) (some (.inl false))))) (some (.inl false))) (Ab (Ak x.1 3) (Ab b (Ab (Dc
 x.2.2.1 []) (Aa (D0 (x.2.2.2.1,(0,7))) (λa=>(some (.inl a)))) (some (.inl false))) (some (.inl false))) (Ab (Ak x.1 4) (Ab b (Ab (Dc x.2.2.1 [])
 (Ab (Ak x.2.2.2.1 0) (some (.inl (AI x.2.2.2.2.1 0))) (some (.inl false))) (some (.inl false))) (some (.inl false))) (some (.inl false)))))) (λ(a:Bool)=>(Ab (Ak
 x.2.2.2.2.1 0) (Ab a (Ab (Ak x.2.2.2.2.2.1 0) (some (Ak x.2.2.2.2.2.2 0)) (some false)) (some false)) (Ab a (Aa (D0 (x.2.2.2.2.1,(1,9))) (λc=>
 (Ab c (Aa (My x.2.2.2.2.2.1) (λd=>(Ab d (Aa (D0 (x.2.2.2.2.2.2,(0,6))) (λe=>(some e))) (some false)))) (some false))))
 (some false)))))))
def YA(x:Fm):(Int)->Option Ls:=λ(b:Int)=>(Ab (Bb b (Am x.1)) (Aa (idx x.1 b) (λa=>(Aa (KB (a.1,
 ((a.2.1.1,a.2.1.2),((a.2.2.1.1,a.2.2.1.2),(a.2.2.2.1,a.2.2.2.2))))) (λc=>(Ab (Ap c) (some (.inr (.inr false))) (Ab (Cr b 0) (Aa (idx x.1 (Br
 .i64 b 1)) (λd=>(Ab (Ap (FB d.1 a.1)) (some (.inr (.inr false))) (some (.inl (Au .i64 b 1)))))) (some (.inl (Au .i64 b 1))))))))) (some (.inr (.inl
 ()))))
def YB(x:Fm):(Int)->Option Ls:=λ(a:Int)=>(Ab (Bb a (Am x.2.2)) (Aa (idx x.2.2 a) (λb=>(Aa (D0 (b.1,(1,
 9))) (λc=>(Ab (Ap c) (some (.inr (.inr false))) (Aa (My b.2.1) (λd=>(Ab (Ap d) (some (.inr (.inr false))) (Aa (D0
 (b.2.2,(0,6))) (λe=>(Ab (Ap e) (some (.inr (.inr false))) (Ab (Cr a 0) (Aa (idx x.2.2 (Br .i64 a 1)) (λf=>(Ab (Dk f.1 b.1) (some
 (.inr (.inr false))) (some (.inl (Au .i64 a 1)))))) (some (.inl (Au .i64 a 1))))))))))))))) (some (.inr (.inl ()))))
def Mx(x:Fm):Dx:=(AC (Bd (YA x) 0) (λ(b:Unit)=>(AC (Bd (YB x) 0) (λ(c:Unit)=>(Ab (Ck (Am x.1) 8)
 (Aa (D0 (x.2.1,(0,7))) (λa=>(some a))) (some false))))))
def YE(x:cj):lP->Option (lP ⊕ va):=λ(a:lP)=>(Ab (Bb a.2.2.2 (Am x.1)) (AC (Aa (idx a.2.2.1 a.2.2.2) (λb
 => (A3 (Ik b.2.1.2) (A3 (Ik b.2.2.1.2) (AC (Ab (Ap a.2.1) (Ab (Ap (FB b.1 x.2.1)) (Aa (NU x.2) (λc=>(A3 (Bk (a.1.length+1)
 96) (some (.inl ((Ax a.1 [c]),true)))))) (some (.inl (a.1,a.2.1)))) (some (.inl (a.1,a.2.1)))) (λ(c:T4)=>(Ab (Ap (Dc b.1 x.2.1)) (Aa (idx a.2.2.1
 (Int.ofNat (A9 a.2.2.2))) (λd=>(Aa (idx (BS a.2.2.1 (A9 a.2.2.2) (d.1,((d.2.1.1,none),d.2.2))) (Int.ofNat (A9 a.2.2.2))) (λe=>(A3
 (Bk (c.1.length+1) 96) (some (.inl ((Ax c.1 [(b.1,((b.2.1.1,(JB b.2.1.2)),((b.2.2.1.1,(JB b.2.2.1.2)),b.2.2.2)))]),(c.2,(BS (BS a.2.2.1 (A9
 a.2.2.2) (d.1,((d.2.1.1,none),d.2.2))) (A9 a.2.2.2) (e.1,(e.2.1,((e.2.2.1.1,none),e.2.2.2))))))))))))) (some (.inl (c.1,(c.2,a.2.2.1))))))))))) (λ(b:
 (G3×(Bool×Pn)))=>(some (.inl (b.1,(b.2.1,(b.2.2,(Au .i64 a.2.2.2 1)))))))) (some (.inr (.inl (a.1,a.2.1)))))
def TV(x:cj):vy:=(AC (Bd (YE x) ([],(false,(x.1,0)))) (λ(a:T4)=>(AC (Ab (Ap a.2) (Aa (NU x.2) (fun
 b=>(A3 (Bk (a.1.length+1) 96) (some (.inl (Ax a.1 [b])))))) (some (.inl a.1))) (λ(b:G3)=>(some b)))))
def TJ(x:(GK×K3)):(Option Zom):=(some ((Dc x.1.1 x.2.2.2.1),(x.2.1,(x.2.2.1.1,(x.2.2.1.2.1.1,(x.2.2.1.2.2.1.1,(x.2.2.1.2.2.2.1,
 (x.2.2.1.2.2.2.2,x.2.2.2))))))))
def e_(x:wW):cm->Option (cm ⊕ vt):=λ(a:cm)=>(Ab (Bb a.2.2.2.2.2.2.2.2.2.2.2 (Am x.1)) (Aa (idx x.1
 a.2.2.2.2.2.2.2.2.2.2.2) (λc=>(Aa (TJ (c,(a.1,((a.2.1,((a.2.2.1,x.2.2.1.2.1.2),((a.2.2.2.1,x.2.2.1.2.2.1.2),(a.2.2.2.2.1,
 a.2.2.2.2.2.1)))),(a.2.2.2.2.2.2.1,(a.2.2.2.2.2.2.2.1,(a.2.2.2.2.2.2.2.2.1,(a.2.2.2.2.2.2.2.2.2.1,a.2.2.2.2.2.2.2.2.2.2.1)))))))) (λb=>(Ab b.1 (some
 (.inr (a.2.2.2.2.2.2.2.2.2.2.2,b.2))) (some (.inl (b.2.1,(b.2.2.1,(b.2.2.2.1,(b.2.2.2.2.1,(b.2.2.2.2.2.1,(b.2.2.2.2.2.2.1,(b.2.2.2.2.2.2.2.1,
 (b.2.2.2.2.2.2.2.2.1,(b.2.2.2.2.2.2.2.2.2.1,(b.2.2.2.2.2.2.2.2.2.2.1,(b.2.2.2.2.2.2.2.2.2.2.2,(Au .i64 a.2.2.2.2.2.2.2.2.2.2.2 1))))))))))))))))))) (some (.inr ((-1),
 (a.1,(a.2.1,(a.2.2.1,(a.2.2.2.1,(a.2.2.2.2.1,(a.2.2.2.2.2.1,(a.2.2.2.2.2.2.1,(a.2.2.2.2.2.2.2.1,(a.2.2.2.2.2.2.2.2.1,(a.2.2.2.2.2.2.2.2.2.1,
 a.2.2.2.2.2.2.2.2.2.2.1))))))))))))))
def Ye(x:wW):(Option vt):=(Bd (e_ x) (x.2.1,(x.2.2.1.1,(x.2.2.1.2.1.1,(x.2.2.1.2.2.1.1,
 (x.2.2.1.2.2.2.1,(x.2.2.1.2.2.2.2,(x.2.2.2.1,(x.2.2.2.2.1,(x.2.2.2.2.2.1,(x.2.2.2.2.2.2.1,(x.2.2.2.2.2.2.2,0))))))))))))
def US(x:wT):l_->Option (l_ ⊕ (la ⊕ v_)):=λ(a:l_)=>(Ab (Bb a.2.2.2.2.2.2.2.2.2.2.2.2.2 (Am a.1)) (AC (Aa
 (idx a.1 a.2.2.2.2.2.2.2.2.2.2.2.2.2) (λb=>(A3 (Ik b.2.1.2) (A3 (Ik b.2.2.1.2) (Aa (TJ ((b.1,((b.2.1.1,(JB b.2.1.2)),((b.2.2.1.1,
 (JB b.2.2.1.2)),b.2.2.2))),(a.2.1,((a.2.2.1,((a.2.2.2.1,x.2.2.1.2.1.2),((a.2.2.2.2.1,x.2.2.1.2.2.1.2),(a.2.2.2.2.2.1,a.2.2.2.2.2.2.1)))),(a.2.2.2.2.2.2.2.1,
 (a.2.2.2.2.2.2.2.2.1,(a.2.2.2.2.2.2.2.2.2.1,(a.2.2.2.2.2.2.2.2.2.2.1,a.2.2.2.2.2.2.2.2.2.2.2.1)))))))) (λc=>(Ab (Ap c.1) (Aa (idx a.1
 a.2.2.2.2.2.2.2.2.2.2.2.2.1) (λe=>(A3 (Wc (A9 a.2.2.2.2.2.2.2.2.2.2.2.2.1) (A9 a.2.2.2.2.2.2.2.2.2.2.2.2.2)) (Aa (idx a.1 (Int.ofNat (A9
 a.2.2.2.2.2.2.2.2.2.2.2.2.2))) (λd=>(A3 (Hq (A9 a.2.2.2.2.2.2.2.2.2.2.2.2.2) (A9 a.2.2.2.2.2.2.2.2.2.2.2.2.2)) (A3 (Hq (A9 a.2.2.2.2.2.2.2.2.2.2.2.2.2)
 (A9 a.2.2.2.2.2.2.2.2.2.2.2.2.2)) (some (.inl ((BS (BS a.1 (A9 a.2.2.2.2.2.2.2.2.2.2.2.2.1) (b.1,((b.2.1.1,(some (JB b.2.1.2))),((b.2.2.1.1,(some (JB
 b.2.2.1.2))),b.2.2.2)))) (A9 a.2.2.2.2.2.2.2.2.2.2.2.2.2) (d.1,((d.2.1.1,none),((d.2.2.1.1,none),d.2.2.2)))),(c.2.1,(c.2.2.1,(c.2.2.2.1,(c.2.2.2.2.1,
 (c.2.2.2.2.2.1,(c.2.2.2.2.2.2.1,(c.2.2.2.2.2.2.2.1,(c.2.2.2.2.2.2.2.2.1,(c.2.2.2.2.2.2.2.2.2.1,(c.2.2.2.2.2.2.2.2.2.2.1,(c.2.2.2.2.2.2.2.2.2.2.2,(Au .i64
 a.2.2.2.2.2.2.2.2.2.2.2.2.1 1)))))))))))))))))))))) (some (.inl (a.1,(c.2.1,(c.2.2.1,(c.2.2.2.1,(c.2.2.2.2.1,(c.2.2.2.2.2.1,(c.2.2.2.2.2.2.1,(c.2.2.2.2.2.2.2.1,
 (c.2.2.2.2.2.2.2.2.1,(c.2.2.2.2.2.2.2.2.2.1,(c.2.2.2.2.2.2.2.2.2.2.1,(c.2.2.2.2.2.2.2.2.2.2.2,a.2.2.2.2.2.2.2.2.2.2.2.2.1))))))))))))))))))))) (λ(b:la)=>(some
 (.inl (b.1,(b.2.1,(b.2.2.1,(b.2.2.2.1,(b.2.2.2.2.1,(b.2.2.2.2.2.1,(b.2.2.2.2.2.2.1,(b.2.2.2.2.2.2.2.1,(b.2.2.2.2.2.2.2.2.1,(b.2.2.2.2.2.2.2.2.2.1,
 (b.2.2.2.2.2.2.2.2.2.2.1,(b.2.2.2.2.2.2.2.2.2.2.2.1,(b.2.2.2.2.2.2.2.2.2.2.2.2,(Au .i64 a.2.2.2.2.2.2.2.2.2.2.2.2.2 1)))))))))))))))))) (some (.inr (.inl (a.1,(a.2.1,
 (a.2.2.1,(a.2.2.2.1,(a.2.2.2.2.1,(a.2.2.2.2.2.1,(a.2.2.2.2.2.2.1,(a.2.2.2.2.2.2.2.1,(a.2.2.2.2.2.2.2.2.1,(a.2.2.2.2.2.2.2.2.2.1,(a.2.2.2.2.2.2.2.2.2.2.1,
 (a.2.2.2.2.2.2.2.2.2.2.2.1,a.2.2.2.2.2.2.2.2.2.2.2.2.1))))))))))))))))
def Uz(x:wT):(Option v_):=(Aa (Ge (.P .S (.P (.P (.I .i64) (.H .Y)) (.P (.P (.I .i64) (.H .Y)) (.P (.I .i64) .B)))) (.P .S (.P
 (.P (.I .i64) (.L .Y)) (.P (.P (.I .i64) (.L .Y)) (.P (.I .i64) .B)))) x.1) (λc=>(Aa (Ye (c,x.2)) (λb=>(Ab (Ak b.1
 (-1)) (Aa (Ge (.P .S (.P (.P (.I .i64) (.H .Y)) (.P (.P (.I .i64) (.H .Y)) (.P (.I .i64) .B)))) (.P .S (.P (.P (.I .i64) (.L .Y)) (.P (.P (.I .i64) (.L .Y)) (.P (.I .i64)
 .B)))) x.1) (λa=>(some (a,b.2)))) (AC (Bd (US x) (x.1,(b.2.1,(b.2.2.1,(b.2.2.2.1,(b.2.2.2.2.1,(b.2.2.2.2.2.1,
 (b.2.2.2.2.2.2.1,(b.2.2.2.2.2.2.2.1,(b.2.2.2.2.2.2.2.2.1,(b.2.2.2.2.2.2.2.2.2.1,(b.2.2.2.2.2.2.2.2.2.2.1,(b.2.2.2.2.2.2.2.2.2.2.2,(b.1,(Au .i64 b.1
 1))))))))))))))) (λ(a:la)=>(A3 (De a.2.2.2.2.2.2.2.2.2.2.2.2 (Am a.1) (Am a.1)) (A3 (Hq ((A9 a.2.2.2.2.2.2.2.2.2.2.2.2)+((A9 (Am a.1))-(A9
 a.2.2.2.2.2.2.2.2.2.2.2.2))) a.1.length) (A3 (De 0 a.2.2.2.2.2.2.2.2.2.2.2.2 (Am (Ax (BA (A9 a.2.2.2.2.2.2.2.2.2.2.2.2) a.1) (GX ((A9 (Am a.1))-(A9
 a.2.2.2.2.2.2.2.2.2.2.2.2)) ([],((0,none),((0,none),(0,false)))))))) (A3 (IJ 0 ((A9 a.2.2.2.2.2.2.2.2.2.2.2.2)-0) (Ax (BA (A9 a.2.2.2.2.2.2.2.2.2.2.2.2)
 a.1) (GX ((A9 (Am a.1))-(A9 a.2.2.2.2.2.2.2.2.2.2.2.2)) ([],((0,none),((0,none),(0,false)))))).length) (Aa (Ge (.P .S (.P (.P (.I .i64) (.H .Y)) (.P (.P (.I
 .i64) (.H .Y)) (.P (.I .i64) .B)))) (.P .S (.P (.P (.I .i64) (.L .Y)) (.P (.P (.I .i64) (.L .Y)) (.P (.I .i64) .B)))) (BA ((A9 a.2.2.2.2.2.2.2.2.2.2.2.2)-0) (Ax (BA
 (A9 a.2.2.2.2.2.2.2.2.2.2.2.2) a.1) (GX ((A9 (Am a.1))-(A9 a.2.2.2.2.2.2.2.2.2.2.2.2)) ([],((0,none),((0,none),(0,false)))))))) (λd=>(some (d,
 (a.2.1,(a.2.2.1,(a.2.2.2.1,(a.2.2.2.2.1,(a.2.2.2.2.2.1,(a.2.2.2.2.2.2.1,(a.2.2.2.2.2.2.2.1,(a.2.2.2.2.2.2.2.2.1,(a.2.2.2.2.2.2.2.2.2.1,
 (a.2.2.2.2.2.2.2.2.2.2.1,a.2.2.2.2.2.2.2.2.2.2.2.1)))))))))))))))))))))))))
def eN(x:WT):WU->Option vr:=λ(a:WU)=>(Ab (Bb a.2.2 (Am x.1)) (AC (Aa (idx x.1 a.2.2) (λb=>(AC (Ab
 (Ap a.2.1) (Ab (Dk b.1 x.2.1) (A3 (Bk (a.1.length+1) 24) (some (.inl ((Ax a.1 [x.2]),true)))) (some (.inl (a.1,a.2.1)))) (some (.inl (a.1,a.2.1)))) (λ(z3
 : Ri)=>(Ab (AI b.1 x.2.1) (A3 (Bk (z3.1.length+1) 24) (some (.inl ((Ax z3.1 [b]),z3.2)))) (some (.inl z3))))))) (λ(b:Ri)=>(some (.inl (b.1,(b.2,
 (Au .i64 a.2.2 1))))))) (some (.inr (.inl (a.1,a.2.1)))))
def R1(x:WT):wM:=(AC (Bd (eN x) ([],(false,0))) (λ(a:Ri)=>(AC (Ab (Ap a.2) (A3 (Bk (a.1.length+1) 24)
 (some (.inl (Ax a.1 [x.2])))) (some (.inl a.1))) (λ(b:IY)=>(some b)))))
def TI(x:wS):vj:=(Aa (Rz x.1) (λc=>(Aa (NT x.2) (λd=>(Ab (Ap d) (some (c,false)) (Aa
 (Mx x.1) (λe=>(Ab (Ap e) (some (c,false)) (AC (Ab (Ak x.2.1 1) (Aa (Ge (.P .S (.P (.P (.I .i64) (.L .Y)) (.P (.P (.I .i64) (.L .Y)) (.P (.I
 .i64) .B)))) (.P .S (.P (.P (.I .i64) (.H .Y)) (.P (.P (.I .i64) (.H .Y)) (.P (.I .i64) .B)))) c.1) (λb=>(Aa (TV (b,x.2.2.1)) (λa=>
 (some (.inl (x.2.1,(x.2.2.1.1,(x.2.2.1.2.1.1,(x.2.2.1.2.2.1.1,(x.2.2.1.2.2.2.1,(x.2.2.1.2.2.2.2,(x.2.2.2.1,(x.2.2.2.2.1,(x.2.2.2.2.2.1,(x.2.2.2.2.2.2.1,
 (x.2.2.2.2.2.2.2,(a,c.2.1)))))))))))))))))) (Ab (Ak x.2.1 2) (Aa (Ge (.P .S (.P (.P (.I .i64) (.L .Y)) (.P (.P (.I .i64) (.L .Y)) (.P (.I .i64) .B)))) (.P .S (.P (.P (.I
 .i64) (.H .Y)) (.P (.P (.I .i64) (.H .Y)) (.P (.I .i64) .B)))) c.1) (λb=>(Aa (Uz (b,x.2)) (λa=>(some (.inl (a.2.1,
 (a.2.2.1,(a.2.2.2.1,(a.2.2.2.2.1,(a.2.2.2.2.2.1,(a.2.2.2.2.2.2.1,(a.2.2.2.2.2.2.2.1,(a.2.2.2.2.2.2.2.2.1,(a.2.2.2.2.2.2.2.2.2.1,(a.2.2.2.2.2.2.2.2.2.2.1,
 (a.2.2.2.2.2.2.2.2.2.2.2,(a.1,c.2.1)))))))))))))))))) (Ab (Ak x.2.1 3) (some (.inl (x.2.1,(x.2.2.1.1,(x.2.2.1.2.1.1,(x.2.2.1.2.2.1.1,(x.2.2.1.2.2.2.1,
 (x.2.2.1.2.2.2.2,(x.2.2.2.1,(x.2.2.2.2.1,(x.2.2.2.2.2.1,(x.2.2.2.2.2.2.1,(x.2.2.2.2.2.2.2,(c.1,x.2.2.2.2.1)))))))))))))) (some (.inl (x.2.1,(x.2.2.1.1,(x.2.2.1.2.1.1,
 (x.2.2.1.2.2.1.1,(x.2.2.1.2.2.2.1,(x.2.2.1.2.2.2.2,(x.2.2.2.1,(x.2.2.2.2.1,(x.2.2.2.2.2.1,(x.2.2.2.2.2.2.1,(x.2.2.2.2.2.2.2,(c.1,c.2.1))))))))))))))))) (λ(b:(Int
 × ((List UInt8)×(Int×(Int×(Int×(Bool×((List UInt8)×(Int×(Int×(Int×(Int×Mp))))))))))))=>(AC (Ab (Cr b.2.2.2.2.2.2.2.2.1 0) (Aa (R1
 (c.2.2,(b.2.2.2.2.2.2.2.2.1,(b.2.2.2.2.2.2.2.2.2.1,b.2.2.2.2.2.2.2.2.2.2.1)))) (λa=>(some (.inl a)))) (some (.inl c.2.2))) (λ(a:IY)=>(Aa
 (Mx (b.2.2.2.2.2.2.2.2.2.2.2.1,(b.2.2.2.2.2.2.2.2.2.2.2.2,a))) (λf=>(Ab (Ap f) (Aa (Rz x.1) (λg=>(some (g,false))))
 (some ((b.2.2.2.2.2.2.2.2.2.2.2.1,(b.2.2.2.2.2.2.2.2.2.2.2.2,a)),true)))))))))))))))))
def Y4(x:Ez):(Int)->Option Ls:=λ(a:Int)=>(Ab (Bb a (Am x.1)) (Aa (idx x.1 a) (λb=>(Ab (Cr (Am b) 120)
 (some (.inr (.inr false))) (some (.inl (Au .i64 a 1)))))) (some (.inr (.inl ()))))
def Y5(x:Ez):(Int)->Option ((Int) ⊕ Bool):=λ(a:Int)=>(Ab (Bb a (Am x.2.1)) (Aa (idx x.2.1 a) (λb=>(Aa (D0
 (b.1,(0,(Br .i64 (Am x.1) 1)))) (λc=>(Ab (Ap c) (some (.inr false)) (Ab (Cr (Am b.2) 120) (some (.inr false)) (some (.inl (Au .i64 a 1)))))))))
 (some (.inr true)))
def K9(x:Ez):Dx:=(Aa (D0 ((Am x.1),(1,64))) (λa=>(Ab (Ap a) (some false) (Ab (Cr (Am x.2.1) 40) (some false)
 (Aa (D0 (x.2.2.1,((-1),1000))) (λb=>(Ab (Ap b) (some false) (AC (Bd (Y4 x) 0) (λ(c:Unit)=>(Bd (Y5 x) 0))))))))))
def Mw(x:J0):Dx:=(Aa (K9 (x.1.1,(x.1.2.1,(x.1.2.2.1,x.1.2.2.2)))) (λd=>(Ab d (Ab (Ak (Am x.1.1) 62) (Ab (Ak (Am
 x.1.2.1) 0) (Aa (Mx (x.2.1.1,(x.2.1.2.1,x.2.1.2.2))) (λa=>(Ab a (Aa (D0 (x.2.2.1,(1,60000))) (λb=>(Ab b (Aa (D0
 (x.2.2.2,(0,30))) (λc=>(some c))) (some false)))) (some false)))) (Ab x.1.2.2.2 (Aa (Mx (x.2.1.1,(x.2.1.2.1,x.2.1.2.2))) (λa=>(Ab a
 (Aa (D0 (x.2.2.1,(1,60000))) (λb=>(Ab b (Aa (D0 (x.2.2.2,(0,30))) (λc=>(some c))) (some false)))) (some false)))) (some
 false))) (some false)) (some false))))
def eI(x:Fm):NH->Option cp:=λ(c:NH)=>(Ab (Bb c.2 (Am x.1)) (Aa (idx x.1 c.2) (λa=>(Aa (NU (a.1,
 ((a.2.1.1,a.2.1.2),((a.2.2.1.1,a.2.2.1.2),(a.2.2.2.1,a.2.2.2.2))))) (λb=>(A3 (Bk (c.1.length+1) 152) (some (.inl ((Ax c.1 [(1,((b.1,
 ((b.2.1.1,b.2.1.2),((b.2.2.1.1,b.2.2.1.2),(b.2.2.2.1,b.2.2.2.2)))),([],(0,(0,(0,0))))))]),(Au .i64 c.2 1))))))))) (some (.inr (.inl c.1))))
def eJ(x:Fm):NH->Option cp:=λ(a:NH)=>(Ab (Bb a.2 (Am x.2.2)) (Aa (idx x.2.2 a.2) (λb=>(A3 (Bk (a.1.length +
 1) 152) (some (.inl ((Ax a.1 [(4,(([],((0,[]),((0,[]),(0,false)))),([],(0,(b.1,(b.2.1,b.2.2))))))]),(Au .i64 a.2 1))))))) (some (.inr (.inl a.1))))
def Rv(x:Fm):vg:=(AC (Bd (eI x) ([(3,(([],((0,[]),((0,[]),(0,false)))),([],(x.2.1,(0,(0,0))))))],0)) (λ(a:Mo)
 => (AC (Bd (eJ x) (a,0)) (λ(b:Mo)=>(some b)))))
def Lz(x:(Int×Int)):(Option Int):=(some (Au .i64 (Au .i64 2 (Fu .i64 30 (EX x.1 2))) x.2))
def JX(x:Fc):He:=(Aa (Hg [x.1,[(u8 (Az .u8 (Bg .i64 (Cl .i64 x.2 8) 255))),(u8 (Az .u8 (Bg .i64 x.2 255)))]]) (λa=>(some a)))
def Mv(x:((List UInt8)×(List UInt8))):He:=(Ab (Cr (Am x.2) 60) (Aa (Hg [x.1]) (λa=>(some a))) (Aa (JX
 (x.1,(Am x.2))) (λa=>(Aa (Hg [a,x.2]) (λb=>(some b))))))
def dP(x:Bool):(Option UInt8):=(Ab x (some (u8 1)) (some (u8 0)))
def TR(x:vx):He:=(Aa (Hg [x.1]) (λe=>(Aa (KB (x.2.1,((x.2.2.1.1,x.2.2.1.2),((x.2.2.2.1.1,x.2.2.2.1.2),
 (x.2.2.2.2.1,x.2.2.2.2.2))))) (λf=>(Ab (Ap f) (some e) (Aa (Mv (e,x.2.1)) (λb=>(Aa (dP x.2.2.2.2.2) (λc=>(A3 (Bk (b.length+2) 1) (AC (Ab (AI x.2.2.2.2.1 2) (A3 (Bk ((Ax b [(u8 (Az .u8 x.2.2.2.2.1)),c]).length+1) 1) (Aa (Mv ((Ax (Ax b
 [(u8 (Az .u8 x.2.2.2.2.1)),c]) [(u8 (Az .u8 x.2.2.1.1))]),x.2.2.1.2)) (λa=>(some (.inl a))))) (some (.inl (Ax b [(u8 (Az .u8 x.2.2.2.2.1)),
 c])))) (λ(a:(List UInt8))=>(AC (Ab (AI x.2.2.2.2.1 1) (A3 (Bk (a.length+1) 1) (Aa (Mv ((Ax a [(u8 (Az .u8 x.2.2.2.1.1))]),x.2.2.2.1.2)) (fun
 d=>(some (.inl d))))) (some (.inl a))) (λ(d:(List UInt8))=>(some d)))))))))))))))
def eK:(Int×Int)->Option wC:=λ(a:(Int×Int))=>(Ab (Bb a.2 8) (AC (Ab (Cr (Fu .i64 a.1 2) 65535) (some (.inl (JD .i64 (Fu .i64
 a.1 2) 69665))) (some (.inl (Fu .i64 a.1 2)))) (λ(b:Int)=>(some (.inl (b,(Au .i64 a.2 1)))))) (some (.inr (.inl a.1))))
def eL(x:(List UInt8)):(Int×Int)->Option dB:=λ(a:(Int×Int))=>(Ab (Bb a.2 (Am x)) (AC (Aa (idx x a.2) (λb=>
 (Bd (eK) ((JD .i64 a.1 (Fu .i64 256 (Az .i64 (Aj b)))),0)))) (λ(b:Int)=>(some (.inl (b,(Au .i64 a.2 1)))))) (some (.inr (.inl a.1))))
def Rx(x:(List UInt8)):(Option Int):=(AC (Bd (eL x) (65535,0)) (λ(a:Int)=>(some (Bg .i64 a 65535))))
def P2(x:vh):He:=(Aa (NT (x.2.2.1,((x.2.2.2.1.1,((x.2.2.2.1.2.1.1,x.2.2.2.1.2.1.2),((x.2.2.2.1.2.2.1.1,x.2.2.2.1.2.2.1.2),
 (x.2.2.2.1.2.2.2.1,x.2.2.2.1.2.2.2.2)))),(x.2.2.2.2.1,(x.2.2.2.2.2.1,(x.2.2.2.2.2.2.1,(x.2.2.2.2.2.2.2.1,x.2.2.2.2.2.2.2.2))))))) (λd=>(Ab (Ap d) (some
 []) (Aa (My x.1) (λe=>(Ab (Ap e) (some []) (Aa (My x.2.1) (λf=>(Ab (Ap f) (some []) (al 2 (Aa (JX ([],x.1)) (fun
 g=>(Aa (JX (g,x.2.1)) (λa=>(A3 (Bk (a.length+1) 1) (AC (Ab (Ak x.2.2.1 1) (Aa (TR ((Ax a [(u8 (Az
 .u8 x.2.2.1))]),(x.2.2.2.1.1,((x.2.2.2.1.2.1.1,x.2.2.2.1.2.1.2),((x.2.2.2.1.2.2.1.1,x.2.2.2.1.2.2.1.2),(x.2.2.2.1.2.2.2.1,x.2.2.2.1.2.2.2.2)))))) (λb
 => (some (.inl b)))) (Ab (Ak x.2.2.1 2) (Aa (Mv ((Ax a [(u8 (Az .u8 x.2.2.1))]),x.2.2.2.2.1)) (λb=>(some (.inl b)))) (Ab (Ak x.2.2.1
 3) (A3 (Bk ((Ax a [(u8 (Az .u8 x.2.2.1))]).length+1) 1) (some (.inl (Ax (Ax a [(u8 (Az .u8 x.2.2.1))]) [(u8 (Az .u8 x.2.2.2.2.2.1))])))) (some (.inl (Ax
 a [(u8 (Az .u8 x.2.2.1))])))))) (λ(b:(List UInt8))=>(A3 (Bk (b.length+2) 1) (Aa (JX ((Ax b [(u8 (Az .u8 x.2.2.2.2.2.2.1)),(u8 (Az .u8
 x.2.2.2.2.2.2.2.2))]),x.2.2.2.2.2.2.2.1)) (λc=>(Aa (Rx c) (λh=>(Aa (JX (c,h)) (λi=>(some
 i)))))))))))))))))))))))))
def TS(x:Ez):(Option wB):=(Ab (Ak x.2.2.1 0) (some ((x.1,(x.2.1,((-1),true))),false)) (AC (Ab (Cr x.2.2.1 0) (some (.inl (Br .i64
 x.2.2.1 1))) (some (.inl x.2.2.1))) (λ(a:Int)=>(some ((x.1,(x.2.1,(a,x.2.2.2))),true)))))
def J5(x:vz):Po:=(Aa (Lx (x.1.1,(x.1.2.1,(x.1.2.2.1,x.1.2.2.2)))) (λa=>(Aa (K9 (x.1.1,(x.1.2.1,(x.1.2.2.1,
 x.1.2.2.2)))) (λd=>(Ab (Ap d) (some (a.1,(a.2.1,(a.2.2.1,a.2.2.2)))) (Ab x.1.2.2.2 (some (a.1,(a.2.1,(a.2.2.1,a.2.2.2)))) (Aa (D0
 (x.2.1,(0,(Br .i64 (Am x.1.1) 1)))) (λe=>(Ab (Ap e) (some (a.1,(a.2.1,(a.2.2.1,a.2.2.2)))) (Ab (Cr (Am x.2.2) 120) (some (a.1,(a.2.1,
 (a.2.2.1,a.2.2.2)))) (Ab (Ak (Am x.1.2.1) 40) (some (a.1,(a.2.1,(a.2.2.1,a.2.2.2)))) (Aa (TS (a.1,(a.2.1,(a.2.2.1,a.2.2.2)))) (λb=>
 (AC (Ab b.2 (Aa (Hg [x.2.2]) (λc=>(A3 (Bk (b.1.2.1.length+1) 32) (some (.inl (Ax b.1.2.1 [(x.2.1,c)])))))) (some (.inl b.1.2.1)))
 (λ(c:JS)=>(some (b.1.1,(c,(b.1.2.2.1,b.1.2.2.2)))))))))))))))))))
def Y6(c:wB):NI->Option cl:=λ(a:NI)=>(Ab (Bb a.2 (Am c.1.2.1)) (Aa (idx c.1.2.1 a.2) (λb=>(Aa
 (Hg [b.2]) (λd=>(Aa (idx a.1 b.1) (λe=>(some (.inl ((BS a.1 (A9 b.1) d),(Au .i64 a.2 1)))))))))) (some (.inr
 (.inl a.1))))
def KA(x:Ez):Po:=(Aa (Lx (x.1,(x.2.1,(x.2.2.1,x.2.2.2)))) (λa=>(Aa (K9 (x.1,(x.2.1,(x.2.2.1,x.2.2.2))))
 (λc=>(Ab (Ap c) (some (a.1,(a.2.1,(a.2.2.1,a.2.2.2)))) (Ab x.2.2.2 (some (a.1,(a.2.1,(a.2.2.1,a.2.2.2)))) (Aa (TS (a.1,(a.2.1,
 (a.2.2.1,a.2.2.2)))) (λb=>(Ab (Ap b.2) (some (b.1.1,(b.1.2.1,(b.1.2.2.1,b.1.2.2.2)))) (AC (Bd (Y6 b) (b.1.1,0)) (λ(d:Hu)
 => (some (d,([],(b.1.2.2.1,b.1.2.2.2)))))))))))))))
def TO(x:(Int×Int)):He:=(Aa (D0 (x.1,(1,60000))) (λb=>(Ab (Ap b) (some []) (Aa (D0 (x.2,(0,30))) (λz2=>(Ab (Ap z2) (some []) (Aa (JX ([],x.1)) (λc=>(Aa (JX (c,x.2)) (λa=>(Aa (Rx a) (λd
 => (Aa (JX (a,d)) (λe=>(some e)))))))))))))))
def eM(x:wX):cr->Option (cr ⊕ Ez):=λ(a:cr)=>(Ab (Bb a.2.2.2.2 (Am x.2.2)) (Aa (idx x.2.2 a.2.2.2.2) (λc=>(Aa
 (Lz (x.2.1,a.2.2.2.2)) (λd=>(Aa (P2 (x.2.1,(a.2.2.2.2,c))) (λe=>(Aa (J5 ((a.1,(a.2.1,(a.2.2.1,
 a.2.2.2.1))),(d,e))) (λb=>(some (.inl (b.1,(b.2.1,(b.2.2.1,(b.2.2.2,(Au .i64 a.2.2.2.2 1))))))))))))))) (Ks (Aa (KA (a.1,(a.2.1,
 (a.2.2.1,a.2.2.2.1)))) (λc=>(Aa (TO (x.2.1,(Am x.2.2))) (λd=>(Aa (J5 (c,((EX x.2.1 2),d))) (λe
 => (Aa (KA e) (λb=>(some b)))))))))))
def TU(x:wX):Po:=(Ab (Bb 0 (Am x.2.2)) (Aa (idx x.2.2 0) (λb=>(Aa (Lz (x.2.1,0)) (λc=>(Aa (P2
 (x.2.1,(0,b))) (λd=>(Aa (J5 (x.1,(c,d))) (λa=>(Bd (eM x) (a.1,(a.2.1,(a.2.2.1,(a.2.2.2,(Au .i64 0
 1)))))))))))))) (Aa (KA x.1) (λb=>(Aa (TO (x.2.1,(Am x.2.2))) (λc=>(Aa (J5 (b,((EX x.2.1 2),c)))
 (λd=>(Aa (KA d) (λa=>(some a))))))))))
def NS(x:J0):Pq:=(Aa (Ry x) (λa=>(Aa (Mw x) (λd=>(Ab (Ap d) (some a) (Ab x.1.2.2.2 (some a)
 (Ab (Ak x.2.2.1 60000) (some a) (Aa (Rv x.2.1) (λb=>(Aa (TU (x.1,((Au .i64 x.2.2.1 1),b))) (λc=>(AC (Ab (Ap c.2.2.2)
 (some (.inl ((Au .i64 x.2.2.1 1),(Am b)))) (some (.inl a.2.2))) (λ(e:(Int×Int))=>(some (c,(a.2.1,e))))))))))))))))
def Xs(x:cy):dC:=(Aa (Ry x.1) (λb=>(Aa (TI (x.1.2.1,x.2)) (λd=>(Aa (Mw x.1) (λe
 => (Ab (Ap e) (some (b,false)) (Ab x.1.1.2.2.2 (some (b,false)) (Ab (Ap d.2) (some (b,false)) (AC (Ab (Ak b.2.2.2 30) (Aa (NS b) (λa=>
 (some (.inl (a.1.1,(a.1.2.1,(a.1.2.2.1,(a.1.2.2.2,(a.2.1.1,(a.2.1.2.1,(a.2.1.2.2,a.2.2))))))))))) (some (.inl (b.1.1,(b.1.2.1,(b.1.2.2.1,(b.1.2.2.2,
 (b.2.1.1,(b.2.1.2.1,(b.2.1.2.2,b.2.2)))))))))) (λ(a:Rf)=>(Ab a.2.2.2.1 (some (((a.1,(a.2.1,(a.2.2.1,a.2.2.2.1))),((a.2.2.2.2.1,(a.2.2.2.2.2.1,
 a.2.2.2.2.2.2.1)),a.2.2.2.2.2.2.2)),false)) (Ab (Ak a.2.2.2.2.2.2.2.2 30) (some (((a.1,(a.2.1,(a.2.2.1,a.2.2.2.1))),((a.2.2.2.2.1,(a.2.2.2.2.2.1,
 a.2.2.2.2.2.2.1)),a.2.2.2.2.2.2.2)),false)) (Aa (Lz a.2.2.2.2.2.2.2) (λf=>(Aa (P2 (a.2.2.2.2.2.2.2.1,(a.2.2.2.2.2.2.2.2,x.2))) (λz6=>(Aa (J5 ((a.1,(a.2.1,(a.2.2.1,a.2.2.2.1))),(f,z6))) (λg=>(Aa (KA g) (λc=>(Ab c.2.2.2 (some
 ((c,((a.2.2.2.2.1,(a.2.2.2.2.2.1,a.2.2.2.2.2.2.1)),a.2.2.2.2.2.2.2)),false)) (some ((c,(d.1,(a.2.2.2.2.2.2.2.1,(Au .i64 a.2.2.2.2.2.2.2.2 1)))),
 true))))))))))))))))))))))))
def YO(x:Ez):NI->Option cl:=λ(a:NI)=>(Ab (Bb a.2 (Am x.1)) (Aa (idx x.1 a.2) (λb=>(A3 (Bk (0 +
 b.length) 1) (A3 (Bk (a.1.length+1) 24) (some (.inl ((Ax a.1 [(Ax [] b)]),(Au .i64 a.2 1)))))))) (some (.inr (.inl a.1))))
def YP(x:Ez):WW->Option vm:=λ(a:WW)=>(Ab (Bb a.2 (Am x.2.1)) (Aa (idx x.2.1 a.2) (λc=>(Aa (idx x.2.1 a.2)
 (λb=>(A3 (Bk (0+b.2.length) 1) (A3 (Bk (a.1.length+1) 32) (some (.inl ((Ax a.1 [(c.1,(Ax [] b.2))]),(Au .i64 a.2 1)))))))))) (some (.inr
 (.inl a.1))))
def PC(x:Ez):Po:=(AC (Bd (YO x) ([],0)) (λ(a:Hu)=>(AC (Bd (YP x) ([],0)) (λ(b:JS)=>(some
 (a,(b,(x.2.2.1,x.2.2.2))))))))
def Uq(x:J0):Pq:=(Aa (PC x.1) (λa=>(Aa (RC x.2.1) (λb=>(some (a,(b,x.2.2)))))))
def YJ(x:Ez):(Int)->Option Ls:=λ(a:Int)=>(Ab (Bb a (Am x.1)) (Aa (idx x.1 a) (λb=>(Ab (Cr (Am b) 120)
 (some (.inr (.inr false))) (some (.inl (Au .i64 a 1)))))) (some (.inr (.inl ()))))
def YK(x:Ez):(Int)->Option Ls:=λ(a:Int)=>(Ab (Bb a (Am x.2.1)) (Aa (idx x.2.1 a) (λb=>(Aa (BU (b.1,(0,
 (Br .i64 (Am x.1) 1)))) (λc=>(Ab (Ap c) (some (.inr (.inr false))) (Aa (idx x.2.1 a) (λd=>(Ab (Cr (Am d.2) 120) (some (.inr (.inr
 false))) (some (.inl (Au .i64 a 1))))))))))) (some (.inr (.inl ()))))
def P7(x:Ez):Dx:=(AC (Bd (YJ x) 0) (λ(c:Unit)=>(AC (Bd (YK x) 0) (λ(d:Unit)=>(Aa (BU ((Am
 x.1),(1,64))) (λa=>(Ab a (Ab (Ck (Am x.2.1) 40) (Aa (BU (x.2.2.1,((-1),1000))) (λb=>(some b))) (some false)) (some false))))))))
def NW(x:J0):Dx:=(Aa (P7 (x.1.1,(x.1.2.1,(x.1.2.2.1,x.1.2.2.2)))) (λd=>(Ab d (Ab (Ak (Am x.1.1) 62) (Ab x.1.2.2.2
 (Aa (M3 (x.2.1.1,(x.2.1.2.1,x.2.1.2.2))) (λa=>(Ab a (Aa (BU (x.2.2.1,(1,60000))) (λb=>(Ab b (Aa (BU (x.2.2.2,(0,
 30))) (λc=>(some c))) (some false)))) (some false)))) (Ab (Ak (Am x.1.2.1) 0) (Aa (M3 (x.2.1.1,(x.2.1.2.1,x.2.1.2.2))) (λa=>(Ab a
 (Aa (BU (x.2.2.1,(1,60000))) (λb=>(Ab b (Aa (BU (x.2.2.2,(0,30))) (λc=>(some c))) (some false)))) (some false)))) (some
 false))) (some false)) (some false))))
def X7(x:cy):dC:=(Aa (Uq x.1) (λa=>(Aa (NW x.1) (λc=>(Ab (Ap c) (some (a,false)) (Ab x.1.1.2.2.2
 (some (a,false)) (Aa (NY (a,x.2)) (λb=>(some (b.2,b.1))))))))))
def XB(x:(List UInt8)):Pq:=(Aa (Oa x) (λa=>(Aa (RD ((x,(0,a)),6)) (λb=>(some b.1)))))
def Uc(x:((List (List UInt8))×(List (Int×(List UInt8)))×Int×Bool)×Int):Option ((List (List UInt8))×(List (Int×(List UInt8)))×Int×Bool):=Aa (MR (PC x.1) (some x.1)) λ_=>Aa (MR (P7 x.1) (some (CH x.1.1 x.1.2.1 x.1.2.2.1))) λ_=>A3 (decide (x.1.1.length<2^39/\x.1.2.1.length<2^39/\(∀b∈x.1.1,b.length<2^45)/\∀w∈x.1.2.1,w.2.length<2^45)) (some (Nd x.1.1 x.1.2.1 x.1.2.2.1 x.1.2.2.2 x.2))
def XE(x:(List UInt8)):Po:=(Aa (Oa x) (λk=>(Aa (E2 ((x,(0,k)),[6,6,34])) (λg=>(Aa (RE
 ((x,g.2),g.1)) (λe=>(Aa (E2 ((x,e.2),[(-1),0,1,2])) (λh=>(Aa (L0 (x,h.2)) (λi=>(Aa (NY
 (((e.1.1.1,(e.1.1.2.1,(h.1,e.1.1.2.2.2))),e.1.2),i.1)) (λl=>(al 2 (Aa (Ct ((x,i.2),8)) (λj=>(Aa (Uc (l.2.1,j.1))
 (λd=>(AC (Aa (Ct ((x,j.2),6)) (λb=>(Ab (Ak b.1 0) (Aa (Ct ((x,b.2),2)) (λa=>(Aa (Kb ((x,
 a.2),6)) (λc=>(Aa (idx d.1 a.1) (λf=>(some (.inl ([],([],(0,(false,(BS d.1 (A9 a.1) c.1))))))))))))) (Ab (Ak b.1 1)
 (Aa (Ct ((x,b.2),60)) (λa=>(Aa (Kb ((x,a.2),3)) (λc=>(Aa (idx d.1 (Au .i64 2 a.1)) (λf=>
 (some (.inl ([],([],(0,(false,(BS d.1 (A9 (Au .i64 2 a.1)) c.1))))))))))))) (Ab (Ak b.1 2) (Aa (R8 (x,b.2)) (λa=>(some (.inr a.1))))
 (some (.inl ([],([],(0,(false,d.1))))))))))) (λ(b:(Hu×(JS×(Int×(Bool×Hu)))))=>(some (b.2.2.2.2,d.2)))))))))))))))))))))
def Y8(x:Rg):(Int)->Option ((Int) ⊕ (Unit ⊕ (List UInt8))):=λ(a:Int)=>(Ab (Dk a 0) (Aa (idx x.1.2.1 a) (λb=>(Ab (Ak
 b.1 x.2) (Aa (idx x.1.2.1 a) (λc=>(Aa (Hg [c.2]) (λd=>(some (.inr (.inr d))))))) (some (.inl (Br .i64 a 1)))))) (some (.inr
 (.inl ()))))
def Ru(x:Rg):He:=(Aa (K9 (x.1.1,(x.1.2.1,(x.1.2.2.1,x.1.2.2.2)))) (λa=>(Ab (Ap a) (some []) (Aa (D0 (x.2,
 (0,(Br .i64 (Am x.1.1) 1)))) (λb=>(Ab (Ap b) (some []) (AC (Bd (Y8 x) (Br .i64 (Am x.1.2.1) 1)) (λ(e:Unit)=>(Aa (idx x.1.1
 x.2) (λc=>(Aa (Hg [c]) (λd=>(some d)))))))))))))
def TN(x:Fc):IX:=(Ab (Bb x.2 0) (some (0,(0,false))) (Ab (Cr x.2 (Br .i64 (Am x.1) 2)) (some (0,(0,false))) (Aa (idx x.1 x.2) (λa=>(Aa (idx x.1 (Au .i64 x.2 1)) (λb=>(some ((BM .i64 (C9 .i64 (Az .i64 (Aj a)) 8) (Az .i64 (Aj b))),((Au .i64 x.2 2),true)))))))))
def Jb(x:JR):IX:=(Aa (TN (x.1,x.2.1)) (λa=>(Ab x.2.2 (some (0,(x.2.1,true))) (Ab (Ap a.2.2) (some (0,(x.2.1,
 true))) (some (a.1,(a.2.1,x.2.2)))))))
def Mz(x:JR):wN:=(Aa (Jb (x.1,(x.2.1,x.2.2))) (λa=>(Ab (Ap a.2.2) (A3 (De 0 x.2.1 (Am x.1)) (Aa (Rx
 (BA ((A9 x.2.1)-0) x.1)) (λb=>(Ab (Ak a.1 b) (some ((Ak a.2.1 (Am x.1)),(a.2.1,a.2.2))) (some (false,(a.2.1,a.2.2))))))) (some (false,
 (a.2.1,a.2.2))))))
def TL(x:(List UInt8)):IX:=(Aa (Jb (x,(0,false))) (λa=>(Aa (Jb (x,(a.2.1,a.2.2))) (λb=>
 (Aa (Mz (x,(b.2.1,b.2.2))) (λc=>(Ab (Ap c.1) (some (0,(0,false))) (Aa (D0 (a.1,(1,60000))) (λd=>(Ab (Ap d)
 (some (0,(0,false))) (Aa (D0 (b.1,(0,30))) (λe=>(Ab (Ap e) (some (0,(0,false))) (some (a.1,(b.1,true))))))))))))))))
def HP(x:JR):IX:=(Ab x.2.2 (some (0,(x.2.1,true))) (Ab (Bb x.2.1 0) (some (0,(x.2.1,true))) (Ab (Dk x.2.1 (Am x.1)) (some (0,(x.2.1,
 true))) (Aa (idx x.1 (Br .i64 (Au .i64 x.2.1 1) 1)) (λa=>(some ((Az .i64 (Aj a)),((Au .i64 x.2.1 1),x.2.2))))))))
def Xy(x:Fc):cx:=(Aa (TN (x.1,x.2)) (λa=>(Ab (Ap a.2.2) (some ([],(0,false))) (Ab (Cr a.1 60) (some ([],(0,
 false))) (Ab (Cr a.1 (Br .i64 (Am x.1) a.2.1)) (some ([],(0,false))) (A3 (De a.2.1 (Au .i64 a.2.1 a.1) (Am x.1)) (some ((BA ((A9 (Au .i64 a.2.1
 a.1))-(A9 a.2.1)) (E9 (A9 a.2.1) x.1)),((Au .i64 a.2.1 a.1),true)))))))))
def Ly(x:JR):cx:=(Aa (Xy (x.1,x.2.1)) (λa=>(Ab x.2.2 (some ([],(x.2.1,true))) (Ab (Ap a.2.2) (some ([],(x.2.1,
 true))) (some (a.1,(a.2.1,x.2.2)))))))
def JY(x:JR):wF:=(Aa (HP (x.1,(x.2.1,x.2.2))) (λa=>(Aa (Ly (x.1,(a.2.1,a.2.2))) (λb=>
 (some ((a.1,b.1),(b.2.1,b.2.2)))))))
def P3(x:JR):vu:=(Aa (Ly (x.1,(x.2.1,x.2.2))) (λe=>(Aa (HP (x.1,(e.2.1,e.2.2))) (λd=>
 (Aa (HP (x.1,(d.2.1,d.2.2))) (λc=>(AC (Ab (AI (Bg .i64 d.1 1) 0) (Aa (JY (x.1,(c.2.1,c.2.2))) (λb=>(some
 (.inl (b.2.1,(b.2.2,(b.1.1,b.1.2))))))) (some (.inl (c.2.1,(c.2.2,(0,[])))))) (λ(b:cz)=>(AC (Ab (AI (Bg .i64 d.1 2) 0) (Aa (JY (x.1,
 (b.1,b.2.1))) (λa=>(some (.inl (a.2.1,(a.2.2,(a.1.1,a.1.2))))))) (some (.inl (b.1,(b.2.1,(0,[])))))) (λ(a:cz)=>(Ab a.2.1 (some (([],
 ((0,[]),((0,[]),(0,false)))),(a.1,true))) (Ab (Cr c.1 1) (some (([],((0,[]),((0,[]),(0,false)))),(a.1,true))) (Aa (KB (e.1,((b.2.2.1,b.2.2.2),
 ((a.2.2.1,a.2.2.2),(d.1,(Ak c.1 1)))))) (λf=>(Ab (Ap f) (some (([],((0,[]),((0,[]),(0,false)))),(a.1,true))) (some ((e.1,((b.2.2.1,
 b.2.2.2),((a.2.2.1,a.2.2.2),(d.1,(Ak c.1 1))))),(a.1,a.2.1))))))))))))))))))
def TM(x:(List UInt8)):vd:=(Aa (Jb (x,(0,false))) (λf=>(Aa (Jb (x,(f.2.1,f.2.2))) (λg=>
 (Aa (HP (x,(g.2.1,g.2.2))) (λb=>(AC (Ab (Ak b.1 1) (Aa (P3 (x,(b.2.1,b.2.2))) (λa=>(some (.inl (a.1.1,
 (a.1.2.1.1,(a.1.2.1.2,(a.1.2.2.1.1,(a.1.2.2.1.2,(a.1.2.2.2.1,(a.1.2.2.2.2,([],(0,(a.2.1,a.2.2)))))))))))))) (Ab (Ak b.1 2) (Aa (Ly (x,(b.2.1,
 b.2.2))) (λa=>(some (.inl ([],(0,([],(0,([],(0,(false,(a.1,(0,(a.2.1,a.2.2)))))))))))))) (Ab (Ak b.1 3) (Aa (HP (x,(b.2.1,b.2.2)))
 (λa=>(some (.inl ([],(0,([],(0,([],(0,(false,([],(a.1,(a.2.1,a.2.2)))))))))))))) (some (.inl ([],(0,([],(0,([],(0,(false,([],(0,(b.2.1,
 b.2.2))))))))))))))) (λ(a:vq)=>(Aa (HP (x,(a.2.2.2.2.2.2.2.2.2.1,a.2.2.2.2.2.2.2.2.2.2))) (λc=>(Aa (HP (x,(c.2.1,c.2.2)))
 (λd=>(Aa (Jb (x,(d.2.1,d.2.2))) (λe=>(Aa (Mz (x,(e.2.1,e.2.2))) (λh=>(Ab (Ap h.1) (some (0,(0,
 ((0,(([],((0,[]),((0,[]),(0,false)))),([],(0,(0,(0,0)))))),false)))) (Aa (NT (b.1,((a.1,((a.2.1,a.2.2.1),((a.2.2.2.1,a.2.2.2.2.1),
 (a.2.2.2.2.2.1,a.2.2.2.2.2.2.1)))),(a.2.2.2.2.2.2.2.1,(a.2.2.2.2.2.2.2.2.1,(c.1,(e.1,d.1))))))) (λi=>(Ab (Ap i) (some (0,(0,((0,(([],((0,[]),
 ((0,[]),(0,false)))),([],(0,(0,(0,0)))))),false)))) (some (f.1,(g.1,((b.1,((a.1,((a.2.1,a.2.2.1),((a.2.2.2.1,a.2.2.2.2.1),(a.2.2.2.2.2.1,
 a.2.2.2.2.2.2.1)))),(a.2.2.2.2.2.2.2.1,(a.2.2.2.2.2.2.2.2.1,(c.1,(e.1,d.1)))))),true))))))))))))))))))))))))
def Y9(x:Rg):WZ->Option vn:=λ(a:WZ)=>(Ab (Bb a.2.2.2.2.2.2 30) (al 3 (Aa (Lz (x.2,a.2.2.2.2.2.2)) (λd=>
 (Aa (Ru (x.1,d)) (λe=>(Aa (TM e) (λb=>(Ab (Ap b.2.2.2) (some (.inr (.inr ((a.2.2.2.1,(a.2.2.2.2.1,
 a.2.2.2.2.2.1)),a.2.2.2.2.2.2)))) (Ab (AI b.1 x.2) (some (.inr (.inr ((a.2.2.2.1,(a.2.2.2.2.1,a.2.2.2.2.2.1)),a.2.2.2.2.2.2)))) (Ab (AI b.2.1 a.2.2.2.2.2.2)
 (some (.inr (.inr ((a.2.2.2.1,(a.2.2.2.2.1,a.2.2.2.2.2.1)),a.2.2.2.2.2.2)))) (Aa (TI ((a.2.2.2.1,(a.2.2.2.2.1,a.2.2.2.2.2.1)),b.2.2.1)) (λc=>
 (Ab (Ap c.2) (some (.inr (.inr ((a.2.2.2.1,(a.2.2.2.2.1,a.2.2.2.2.2.1)),a.2.2.2.2.2.2)))) (some (.inl (a.1,(a.2.1,(a.2.2.1,(c.1.1,(c.1.2.1,(c.1.2.2,(Au
 .i64 a.2.2.2.2.2.2 1)))))))))))))))))))))) (some (.inr (.inl (a.1,(a.2.1,(a.2.2.1,(a.2.2.2.1,(a.2.2.2.2.1,a.2.2.2.2.2.1)))))))))
def Rw(x:Rg):vl:=(Aa (D0 (x.2,(1,60000))) (λa=>(Ab (Ap a) (some (([],(0,[])),0)) (AC (Bd (Y9 x)
 ([],(0,([],([],(0,([],0))))))) (λ(b:l5)=>(some (b.2.2.2,30)))))))
def Y7(x:Ez):T5->Option v9:=λ(a:T5)=>(Ab (Bb a.2.2.2.2.2.2.2.2.2 2) (AC (Aa (Ru (x,a.2.2.2.2.2.2.2.2.2)) (λb=>(Aa (TL b) (λc=>(Ab (Ap c.2.2) (some (.inl (a.1,(a.2.1,(a.2.2.1,(a.2.2.2.1,(a.2.2.2.2.1,(a.2.2.2.2.2.1,
 (a.2.2.2.2.2.2.1,(a.2.2.2.2.2.2.2.1,a.2.2.2.2.2.2.2.2.1)))))))))) (Ab (AI (EX c.1 2) a.2.2.2.2.2.2.2.2.2) (some (.inl (a.1,(a.2.1,(a.2.2.1,(a.2.2.2.1,
 (a.2.2.2.2.1,(a.2.2.2.2.2.1,(a.2.2.2.2.2.2.1,(a.2.2.2.2.2.2.2.1,a.2.2.2.2.2.2.2.2.1)))))))))) (Ab (Ck c.1 a.2.2.2.2.2.2.2.1) (some (.inl (a.1,(a.2.1,(a.2.2.1,
 (a.2.2.2.1,(a.2.2.2.2.1,(a.2.2.2.2.2.1,(a.2.2.2.2.2.2.1,(a.2.2.2.2.2.2.2.1,a.2.2.2.2.2.2.2.2.1)))))))))) (Aa (Rw (x,c.1)) (λd=>(Ab (Dk d.2
 c.2.1) (Aa (Lx x) (λe=>(some (.inl (e.1,(e.2.1,(e.2.2.1,(e.2.2.2,(d.1.1,(d.1.2.1,(d.1.2.2,(c.1,d.2)))))))))))) (some (.inl (a.1,
 (a.2.1,(a.2.2.1,(a.2.2.2.1,(a.2.2.2.2.1,(a.2.2.2.2.2.1,(a.2.2.2.2.2.2.1,(a.2.2.2.2.2.2.2.1,a.2.2.2.2.2.2.2.2.1)))))))))))))))))))) (λ(b:Rf)=>(some (.inl
 (b.1,(b.2.1,(b.2.2.1,(b.2.2.2.1,(b.2.2.2.2.1,(b.2.2.2.2.2.1,(b.2.2.2.2.2.2.1,(b.2.2.2.2.2.2.2.1,(b.2.2.2.2.2.2.2.2,(Au .i64 a.2.2.2.2.2.2.2.2.2
 1)))))))))))))) (some (.inr (.inl (a.1,(a.2.1,(a.2.2.1,(a.2.2.2.1,(a.2.2.2.2.1,(a.2.2.2.2.2.1,(a.2.2.2.2.2.2.1,(a.2.2.2.2.2.2.2.1,a.2.2.2.2.2.2.2.2.1))))))))))))
def TQ(x:Ez):dC:=(AC (Bd (Y7 x) ([],([],(0,(false,([],(0,([],(0,(0,0)))))))))) (λ(a:Rf)=>(Ab (Ak a.2.2.2.2.2.2.2.1
 0) (some ((([],([],(0,false))),(([],(0,[])),(0,0))),false)) (Aa (Mw ((a.1,(a.2.1,(a.2.2.1,a.2.2.2.1))),((a.2.2.2.2.1,(a.2.2.2.2.2.1,
 a.2.2.2.2.2.2.1)),a.2.2.2.2.2.2.2))) (λb=>(Ab (Ap b) (some ((([],([],(0,false))),(([],(0,[])),(0,0))),false)) (Aa (NS ((a.1,(a.2.1,
 (a.2.2.1,a.2.2.2.1))),((a.2.2.2.2.1,(a.2.2.2.2.2.1,a.2.2.2.2.2.2.1)),a.2.2.2.2.2.2.2))) (λc=>(some (c,true))))))))))
def PA(x:((List (List UInt8))×(List (Int×(List UInt8)))×Int×Bool)×Int):Option (List UInt8):=Aa (MR (P7 x.1) (some (CH x.1.1 x.1.2.1 x.1.2.2.1))) λ_=>A3 (decide (x.1.1.length<2^62/\x.1.2.1.length<2^62/\(∀b∈x.1.1,b.length<2^45)/\∀w∈x.1.2.1,w.2.length<2^45)) (some (Pb x.1.1 x.1.2.1 x.1.2.2.1 x.2))
def M1(x:Fc):IX:=(Aa (BU (x.2,(0,(Br .i64 (Am x.1) 2)))) (λa=>(Ab (Ap a) (some (0,(0,false))) (Aa (idx x.1 x.2)
 (λb=>(Aa (idx x.1 (Au .i64 x.2 1)) (λc=>(some ((BM .i64 (C9 .i64 (Az .i64 (Aj b)) 8) (Az .i64 (Aj c))),((Au .i64 x.2 2),
 true))))))))))
def Uf(x:(List UInt8)):IX:=(Aa (M1 (x,0)) (λa=>(Aa (M1 (x,2)) (λb=>(Aa (M1 (x,4)) (λc=>(Ab (Ap c.2.2) (some (0,(0,false))) (Ab (AI (Am x) 6) (some (0,(0,false))) (A3 (De 0 4 (Am x)) (Aa (NX (BA ((A9 4)-0) x)) (λd
 => (Ab (AI c.1 d) (some (0,(0,false))) (Aa (BU (a.1,(1,60000))) (λe=>(Ab (Ap e) (some (0,(0,false))) (Ab (Cr b.1 30) (some (0,(0,
 false))) (some (a.1,(b.1,true)))))))))))))))))))
def Gl(x:JR):IX:=(Ab x.2.2 (some (0,(x.2.1,true))) (Ab (Dk x.2.1 (Am x.1)) (some (0,(x.2.1,true))) (Aa (idx x.1 (Br .i64 (Au .i64
 x.2.1 1) 1)) (λa=>(some ((Az .i64 (Aj a)),((Au .i64 x.2.1 1),x.2.2)))))))
def PE(x:JR):IX:=(Aa (Gl (x.1,(x.2.1,x.2.2))) (λa=>(Aa (Gl (x.1,(a.2.1,a.2.2))) (λb=>(some
 ((BM .i64 (C9 .i64 a.1 8) b.1),(b.2.1,b.2.2)))))))
def XI(x:Fc):cx:=(Aa (M1 (x.1,x.2)) (λa=>(Ab (Ap a.2.2) (some ([],(0,false))) (Ab (Cr a.1 60) (some ([],(0,
 false))) (Ab (Cr a.1 (Br .i64 (Am x.1) a.2.1)) (some ([],(0,false))) (A3 (De a.2.1 (Au .i64 a.2.1 a.1) (Am x.1)) (some ((BA ((A9 (Au .i64 a.2.1
 a.1))-(A9 a.2.1)) (E9 (A9 a.2.1) x.1)),((Au .i64 a.2.1 a.1),true)))))))))
def L1(x:JR):cx:=(Aa (XI (x.1,x.2.1)) (λa=>(Ab x.2.2 (some ([],(x.2.1,true))) (Ab (Ap a.2.2) (some ([],(x.2.1,
 true))) (some (a.1,(a.2.1,x.2.2)))))))
def RB(x:JR):wF:=(Aa (Gl (x.1,(x.2.1,x.2.2))) (λa=>(Aa (L1 (x.1,(a.2.1,a.2.2))) (λb=>
 (some ((a.1,b.1),(b.2.1,b.2.2)))))))
def PD(x:JR):vu:=(Aa (L1 (x.1,(x.2.1,x.2.2))) (λd=>(Aa (Gl (x.1,(d.2.1,d.2.2))) (λe=>
 (Aa (Gl (x.1,(e.2.1,e.2.2))) (λa=>(Ab a.2.2 (some ((d.1,((0,[]),((0,[]),(e.1,(Ak a.1 1))))),(a.2.1,true))) (AC (Ab (Ap (Cr a.1
 1)) (Aa (Ea (d.1,((0,[]),((0,[]),(e.1,(Ak a.1 1)))))) (λb=>(Ab b (Aa (RB (x.1,(a.2.1,(Cr a.1 1)))) (λc=>(some
 (.inl (c.2.1,(c.2.2,(c.1.1,c.1.2))))))) (some (.inl (a.2.1,((Cr a.1 1),(0,[])))))))) (some (.inl (a.2.1,((Cr a.1 1),(0,[])))))) (λ(b:cz)=>(AC (Ab
 (Ap b.2.1) (Aa (Df (d.1,((b.2.2.1,b.2.2.2),((0,[]),(e.1,(Ak a.1 1)))))) (λc=>(Ab c (Aa (RB (x.1,(b.1,b.2.1))) (λf=>(some (.inl (f.2.1,(f.2.2,(f.1.1,f.1.2))))))) (some (.inl (b.1,(b.2.1,(0,[])))))))) (some (.inl (b.1,(b.2.1,(0,[])))))) (λ(c:cz)=>(some
 ((d.1,((b.2.2.1,b.2.2.2),((c.2.2.1,c.2.2.2),(e.1,(Ak a.1 1))))),(c.1,c.2.1))))))))))))))
def R3(x:(List UInt8)):vd:=(Ab (Bb (Br .i64 (Am x) 2) 0) (some (0,(0,((0,(([],((0,[]),((0,[]),(0,false)))),([],(0,(0,(0,0)))))),
 false)))) (A3 (De 0 (Br .i64 (Am x) 2) (Am x)) (Aa (PE ((BA ((A9 (Br .i64 (Am x) 2))-0) x),(0,false))) (λe=>(Aa (PE
 ((BA ((A9 (Br .i64 (Am x) 2))-0) x),(e.2.1,e.2.2))) (λg=>(Aa (Gl ((BA ((A9 (Br .i64 (Am x) 2))-0) x),(g.2.1,g.2.2))) (λz3=>(AC (Ab (Ak z3.1 1) (Aa (PD ((BA ((A9 (Br .i64 (Am x) 2))-0) x),(z3.2.1,z3.2.2))) (λa=>(some (.inl (a.1.1,(a.1.2.1.1,
 (a.1.2.1.2,(a.1.2.2.1.1,(a.1.2.2.1.2,(a.1.2.2.2.1,(a.1.2.2.2.2,([],(0,(a.2.1,a.2.2)))))))))))))) (Ab (Ak z3.1 2) (Aa (L1 ((BA ((A9 (Br .i64 (Am
 x) 2))-0) x),(z3.2.1,z3.2.2))) (λa=>(some (.inl ([],(0,([],(0,([],(0,(false,(a.1,(0,(a.2.1,a.2.2)))))))))))))) (Ab (Ak z3.1 3) (Aa (Gl
 ((BA ((A9 (Br .i64 (Am x) 2))-0) x),(z3.2.1,z3.2.2))) (λa=>(some (.inl ([],(0,([],(0,([],(0,(false,([],(a.1,(a.2.1,a.2.2))))))))))))))
 (some (.inl ([],(0,([],(0,([],(0,(false,([],(0,(z3.2.1,z3.2.2))))))))))))))) (λ(a:vq)=>(Aa (Gl ((BA ((A9 (Br .i64 (Am x) 2))-0) x),
 (a.2.2.2.2.2.2.2.2.2.1,a.2.2.2.2.2.2.2.2.2.2))) (λb=>(Aa (Gl ((BA ((A9 (Br .i64 (Am x) 2))-0) x),(b.2.1,b.2.2))) (λc=>
 (Aa (PE ((BA ((A9 (Br .i64 (Am x) 2))-0) x),(c.2.1,c.2.2))) (λd=>(Aa (M1 (x,(Br .i64 (Am x) 2))) (λh=>(Ab
 d.2.2 (some (0,(0,((0,(([],((0,[]),((0,[]),(0,false)))),([],(0,(0,(0,0)))))),false)))) (Ab (AI d.2.1 (Br .i64 (Am x) 2)) (some (0,(0,((0,(([],((0,[]),
 ((0,[]),(0,false)))),([],(0,(0,(0,0)))))),false)))) (A3 (De 0 (Br .i64 (Am x) 2) (Am x)) (Aa (NX (BA ((A9 (Br .i64 (Am x) 2))-0) x)) (λz9=>(Ab (AI h.1 z9) (some (0,(0,((0,(([],((0,[]),((0,[]),(0,false)))),([],(0,(0,(0,0)))))),false)))) (Aa (NV (z3.1,((a.1,((a.2.1,a.2.2.1),
 ((a.2.2.2.1,a.2.2.2.2.1),(a.2.2.2.2.2.1,a.2.2.2.2.2.2.1)))),(a.2.2.2.2.2.2.2.1,(a.2.2.2.2.2.2.2.2.1,(b.1,(d.1,c.1))))))) (λf=>(Ab (Ap f)
 (some (0,(0,((0,(([],((0,[]),((0,[]),(0,false)))),([],(0,(0,(0,0)))))),false)))) (some (e.1,(g.1,((z3.1,((a.1,((a.2.1,a.2.2.1),((a.2.2.2.1,
 a.2.2.2.2.1),(a.2.2.2.2.2.1,a.2.2.2.2.2.2.1)))),(a.2.2.2.2.2.2.2.1,(a.2.2.2.2.2.2.2.2.1,(b.1,(d.1,c.1)))))),true)))))))))))))))))))))))))))))))
def RX(x:Rg):WZ->Option vn:=λ(a:WZ)=>(Ab (Bb a.2.2.2.2.2.2 30) (Aa (BU (x.2,(1,60000))) (λd=>(Ab d (al 3
 (Aa (L2 (x.2,a.2.2.2.2.2.2)) (λe=>(Aa (PA (x.1,e)) (λf=>(Aa (R3 f) (λb=>(Ab (Ap b.2.2.2)
 (some (.inr (.inr ((a.2.2.2.1,(a.2.2.2.2.1,a.2.2.2.2.2.1)),a.2.2.2.2.2.2)))) (Ab (AI b.1 x.2) (some (.inr (.inr ((a.2.2.2.1,(a.2.2.2.2.1,a.2.2.2.2.2.1)),
 a.2.2.2.2.2.2)))) (Ab (AI b.2.1 a.2.2.2.2.2.2) (some (.inr (.inr ((a.2.2.2.1,(a.2.2.2.2.1,a.2.2.2.2.2.1)),a.2.2.2.2.2.2)))) (Aa (P5 ((a.2.2.2.1,
 (a.2.2.2.2.1,a.2.2.2.2.2.1)),b.2.2.1)) (λc=>(Ab (Ap c.2) (some (.inr (.inr ((a.2.2.2.1,(a.2.2.2.2.1,a.2.2.2.2.2.1)),a.2.2.2.2.2.2)))) (some (.inl
 (a.1,(a.2.1,(a.2.2.1,(c.1.1,(c.1.2.1,(c.1.2.2,(Au .i64 a.2.2.2.2.2.2 1)))))))))))))))))))))) (some (.inr (.inl (a.1,(a.2.1,(a.2.2.1,(a.2.2.2.1,
 (a.2.2.2.2.1,a.2.2.2.2.2.1))))))))))) (some (.inr (.inl (a.1,(a.2.1,(a.2.2.1,(a.2.2.2.1,(a.2.2.2.2.1,a.2.2.2.2.2.1)))))))))
def R6(x:Rg):vl:=(AC (Bd (RX x) ([],(0,([],([],(0,([],0))))))) (λ(a:l5)=>(Aa (BU (x.2,(1,60000))) (λz2=>(Ab (Ap z2) (some (a.2.2.2,0)) (some (a.2.2.2,30)))))))
def R4(x:J0):Pq:=(Aa (Uq x) (λa=>(AC (Aa (NW x) (λb=>(Ab b (Ab (Ap x.1.2.2.2) (Ab (Bb x.2.2.1
 60000) (Aa (L3 (a,(Au .i64 x.2.2.1 1))) (λc=>(some (.inl c)))) (some (.inl (a.1.1,(a.1.2.1,(a.1.2.2.1,(a.1.2.2.2,(a.2.1.2.1,a.2.2))))))))
 (some (.inl (a.1.1,(a.1.2.1,(a.1.2.2.1,(a.1.2.2.2,(a.2.1.2.1,a.2.2)))))))) (some (.inl (a.1.1,(a.1.2.1,(a.1.2.2.1,(a.1.2.2.2,(a.2.1.2.1,a.2.2)))))))))) (fun
 (b:cn)=>(some ((b.1,(b.2.1,(b.2.2.1,b.2.2.2.1))),((a.2.1.1,(b.2.2.2.2.1,a.2.1.2.2)),b.2.2.2.2.2)))))))
def YL(x:Ez):T5->Option v9:=λ(a:T5)=>(Ab (Bb a.2.2.2.2.2.2.2.2.2 2) (AC (Aa (PA (x,a.2.2.2.2.2.2.2.2.2)) (λb=>(Aa (Uf b) (λc=>(Ab (Ap c.2.2) (some (.inl (a.1,(a.2.1,(a.2.2.1,(a.2.2.2.1,(a.2.2.2.2.1,(a.2.2.2.2.2.1,
 (a.2.2.2.2.2.2.1,(a.2.2.2.2.2.2.2.1,a.2.2.2.2.2.2.2.2.1)))))))))) (Ab (AI (EX c.1 2) a.2.2.2.2.2.2.2.2.2) (some (.inl (a.1,(a.2.1,(a.2.2.1,(a.2.2.2.1,
 (a.2.2.2.2.1,(a.2.2.2.2.2.1,(a.2.2.2.2.2.2.1,(a.2.2.2.2.2.2.2.1,a.2.2.2.2.2.2.2.2.1)))))))))) (Ab (Ck c.1 a.2.2.2.2.2.2.2.1) (some (.inl (a.1,(a.2.1,(a.2.2.1,
 (a.2.2.2.1,(a.2.2.2.2.1,(a.2.2.2.2.2.1,(a.2.2.2.2.2.2.1,(a.2.2.2.2.2.2.2.1,a.2.2.2.2.2.2.2.2.1)))))))))) (Aa (R6 (x,c.1)) (λd=>(Ab (Dk d.2
 c.2.1) (Aa (PC x) (λe=>(some (.inl (e.1,(e.2.1,(e.2.2.1,(e.2.2.2,(d.1.1,(d.1.2.1,(d.1.2.2,(c.1,d.2)))))))))))) (some (.inl (a.1,
 (a.2.1,(a.2.2.1,(a.2.2.2.1,(a.2.2.2.2.1,(a.2.2.2.2.2.1,(a.2.2.2.2.2.2.1,(a.2.2.2.2.2.2.2.1,a.2.2.2.2.2.2.2.2.1)))))))))))))))))))) (λ(b:Rf)=>(some (.inl
 (b.1,(b.2.1,(b.2.2.1,(b.2.2.2.1,(b.2.2.2.2.1,(b.2.2.2.2.2.1,(b.2.2.2.2.2.2.1,(b.2.2.2.2.2.2.2.1,(b.2.2.2.2.2.2.2.2,(Au .i64 a.2.2.2.2.2.2.2.2.2
 1)))))))))))))) (some (.inr (.inl (a.1,(a.2.1,(a.2.2.1,(a.2.2.2.1,(a.2.2.2.2.1,(a.2.2.2.2.2.1,(a.2.2.2.2.2.2.1,(a.2.2.2.2.2.2.2.1,a.2.2.2.2.2.2.2.2.1))))))))))))
def Uh(x:Ez):dC:=(AC (Bd (YL x) ([],([],(0,(false,([],(0,([],(0,(0,0)))))))))) (λ(a:Rf)=>(Aa (NW ((a.1,
 (a.2.1,(a.2.2.1,a.2.2.2.1))),((a.2.2.2.2.1,(a.2.2.2.2.2.1,a.2.2.2.2.2.2.1)),a.2.2.2.2.2.2.2))) (λb=>(Ab (Ap b) (some ((([],([],(0,false))),
 (([],(0,[])),(0,0))),false)) (Aa (R4 ((a.1,(a.2.1,(a.2.2.1,a.2.2.2.1))),((a.2.2.2.2.1,(a.2.2.2.2.2.1,a.2.2.2.2.2.2.1)),a.2.2.2.2.2.2.2))) (λc=>(some (c,true)))))))))
def XF(x:(List UInt8)):(Option Rg):=(Aa (Oa x) (λf=>(Aa (RE ((x,(0,f)),8)) (λa=>(AC (Aa
 (Ct ((x,a.2),4)) (λb=>(Ab (Ak b.1 0) (Aa (Ct ((x,b.2),6)) (λc=>(Aa (L2 (a.1.2.2.1,c.1)) (λd=>
 (Aa (Kb ((x,c.2),3)) (λe=>(Aa (idx a.1.1.1 d) (λg=>(some (.inl ([],([],(0,(false,((BS a.1.1.1 (A9 d) e.1),
 e.2))))))))))))))) (Ab (Ak b.1 1) (Aa (R8 (x,b.2)) (λc=>(some (.inr (c.1,1))))) (some (.inl ([],([],(0,(false,(a.1.1.1,b.2))))))))))) (fun
 (b:(Hu×(JS×(Int×(Bool×(Hu×(Int×Int)))))))=>(Aa (E2 ((x,b.2.2.2.2.2),[a.1.2.2.1,a.1.2.2.1,(Br .i64 a.1.2.2.1 1),(Au .i64 a.1.2.2.1 1),
 0,60001])) (λc=>(some ((b.2.2.2.2.1,a.1.1.2),c.1))))))))))
def Xu(x:Int):Po:=(Aa (D0 (x,(1,64))) (λa=>(Ab (Ap a) (some ([],([],(0,false)))) (A3 (Ak x x) (A3 (Q7 x 24)
 (some ((GX (A9 x) []),([],((-1),false)))))))))
def Xw(x:Unit):Pq:=(Aa (Rv ([],(0,[]))) (λa=>(Aa (Xu 62) (λb=>(Aa (TU (b,(1,a))) (λz3=>(some (z3,(([],(0,[])),(1,(Am a)))))))))))
def YF(x:lS):(Int)->Option Ls:=λ(a:Int)=>(Ab (Bb a (Am x.1.1)) (Aa (idx x.1.1 a) (λb=>(Aa (idx x.2.1 a)
 (λc=>(Ab (Ap (Dc b c)) (some (.inr (.inr false))) (some (.inl (Au .i64 a 1)))))))) (some (.inr (.inl ()))))
def eO(x:lS):(Int)->Option ((Int) ⊕ Bool):=λ(a:Int)=>(Ab (Bb a (Am x.1.2.1)) (Aa (idx x.1.2.1 a) (λb=>(Aa (idx
 x.2.2.1 a) (λc=>(Ab (AI b.1 c.1) (some (.inr false)) (Aa (idx x.1.2.1 a) (λd=>(Aa (idx x.2.2.1 a) (λe=>(Ab (Ap (Dc d.2
 e.2)) (some (.inr false)) (some (.inl (Au .i64 a 1))))))))))))) (some (.inr true)))
def X6(x:lS):Dx:=(Ab (AI (Am x.1.1) (Am x.2.1)) (some false) (Ab (AI (Am x.1.2.1) (Am x.2.2.1)) (some false) (Ab (AI x.1.2.2.1
 x.2.2.2.1) (some false) (Ab (Zi x.1.2.2.2 x.2.2.2.2) (some false) (AC (Bd (YF x) 0) (λ(a:Unit)=>(Bd (eO x) 0)))))))
def TW(x:cu):Dx:=(Ab (Ak x.1.1 x.2.1) (some (Dc x.1.2 x.2.2)) (some false))
def TX(x:ve):Dx:=(Ab (Dc x.1.1 x.2.1) (Aa (TW (x.1.2.1,x.2.2.1)) (λa=>(Ab a (Aa (TW (x.1.2.2.1,
 x.2.2.2.1)) (λb=>(Ab b (Ab (Ak x.1.2.2.2.1 x.2.2.2.2.1) (some (MT x.1.2.2.2.2 x.2.2.2.2.2)) (some false)) (some false)))) (some false)))) (some false))
def YG(x:l7):(Int)->Option Ls:=λ(a:Int)=>(Ab (Bb a (Am x.1.1)) (Aa (idx x.1.1 a) (λb=>(Aa (idx x.2.1 a) (λz3=>(Aa (TX (b,z3)) (λc=>(Ab (Ap c) (some (.inr (.inr false))) (some (.inl (Au .i64 a 1)))))))))) (some (.inr (.inl ()))))
def YH(x:l7):(Int)->Option ((Int) ⊕ Bool):=λ(a:Int)=>(Ab (Bb a (Am x.1.2.2)) (Aa (idx x.1.2.2 a) (λb=>(Aa (idx
 x.2.2.2 a) (λc=>(Ab (Ap (Xm [b.1,b.2.1,b.2.2] [c.1,c.2.1,c.2.2])) (some (.inr false)) (some (.inl (Au .i64 a 1)))))))) (some (.inr true)))
def TY(x:l7):Dx:=(Ab (AI (Am x.1.1) (Am x.2.1)) (some false) (Ab (AI x.1.2.1 x.2.2.1) (some false) (Ab (AI (Am x.1.2.2) (Am x.2.2.2))
 (some false) (AC (Bd (YG x) 0) (λ(a:Unit)=>(Bd (YH x) 0))))))
def P4(x:(J0×J0)):Dx:=(Aa (X6 (x.1.1,x.2.1)) (λa=>(Ab a (Aa (TY (x.1.2.1,x.2.2.1)) (λb=>
 (Ab b (Ab (Ak x.1.2.2.1 x.2.2.2.1) (some (Ak x.1.2.2.2 x.2.2.2.2)) (some false)) (some false)))) (some false))))
def dQ(x:(List UInt8)):Dx:=(Aa (R2 x) (λy=>(Ab y (some true) (Aa (XG x) (λp=>(Aa
 (X9 x) (λq=>(Aa (Xs q) (λr=>(Aa (X7 q) (λs=>(Aa (XB x) (λt=>(Aa (XE x) (fun
 u=>(Aa (TQ u) (λv=>(Aa (Uh u) (λw=>(Aa (XF x) (λa=>(Aa (Rw a) (λb=>
 (Aa (R6 a) (λc=>(Aa (Xw ()) (λd=>(Aa (Mw p) (λe=>(Aa (NW p) (λf=>(Ab
 (MT e f) (Ab (MT r.2 s.2) (Aa (P4 (r.1,s.1)) (λg=>(Ab g (Aa (NS t) (λh=>(Aa (R4 t) (λi=>
 (Aa (P4 (h,i)) (λj=>(Ab j (Ab (MT v.2 w.2) (Aa (P4 (v.1,w.1)) (λk=>(Ab k (Aa (TY (b.1,
 c.1)) (λl=>(Ab l (Ab (Ak b.2 c.2) (Aa (Ue ()) (λm=>(Aa (P4 (d,m)) (λn=>(Ab n (Aa
 (Mw d) (λo=>(some o))) (some false)))))) (some false)) (some false)))) (some false)))) (some false)) (some false)))))))) (some false)))) (some
 false)) (some false)))))))))))))))))))))))))))))))))
end
end Go.Vs
