import Derived.Test.YtmfmjngkbddenaaGreatDoorVsQtr
set_option linter.all false
namespace Go.Vs
noncomputable section
theorem Yj7 {t:Bw}{f:Int}(h:RightS t) (hf:-1<=f/\f<=1000):RightS ((t.1.1,(t.1.2.1,(f,t.1.2.2.2))),t.2):=by
 obtain⟨d1,d2,d3,d4,d5⟩:=H6 (show Ce t.1.1 t.1.2.1 t.1.2.2.1=true from h.dev);exact⟨Qg d1 d2 hf d4 d5,h.len,h.cache,h.tab,h.gen,h.place⟩
theorem Ztx {d:Dv}(h:dOk d=true):smD 1048576 d:=by
 have h1:=Vo h;have h2:=H6 (show Ce d.1 d.2.1 d.2.2.1=true from h);exact⟨h1.1,h1.2.1,by have:=h2.2.1;omega,h1.2.2.2⟩
theorem Zeh {x:List UInt8}(i:Int) (hx:x.length<=1048576) (hi:0<=i/\i<=100):∃v:Nat,R3 (x,i)=some (v:Int)/\v<=255:=by
 obtain⟨n,rfl⟩:=Kob hi.1;unfold R3;simp only;by_cases h:n<x.length
 ·rw[A3 (by rw[Ak];omega),Ad,Bp h,Aa];exact⟨x[n].toNat,by rw[show Ai .i64 (y2i x[n])=y2i x[n] from Mn (by unfold y2i;omega) (by have:=x[n].toNat_lt;unfold y2i;omega)];rfl,by have:=x[n].toNat_lt;omega⟩
 rw[A6 (by rw[Ak];omega),Ac,show Dd .i64 (n:Int) 31=(n:Int)*31 from Mn (by omega) (by omega),Ak,show Dd .i64 (x.length:Int) 7=(x.length:Int)*7 from Mn (by omega) (by omega),Cz (by omega) (by omega),show (n:Int)*31+(x.length:Int)*7=((n*31+x.length*7:Nat):Int) by omega];exact⟨(n*31+x.length*7)%256,rfl,by omega⟩
theorem Yqv (x:List UInt8):Zi9 x=some true:=by
 rw[Zi9];by_cases hx:x.length<=1048576
 case neg=>rw[Ye1 (by omega),Aa,Ad]
 obtain⟨s,r,k,e1,H,hg,hr⟩:=Yd8 hx;have hr:=hr.mono (show 100<=1048576 by omega);obtain⟨v2,a2,b2⟩:=Zeh (x:=x) 2 hx (by omega);obtain⟨v3,a3,b3⟩:=Zeh (x:=x) 3 hx (by omega);obtain⟨v4,a4,b4⟩:=Zeh (x:=x) 4 hx (by omega);obtain⟨v5,a5,b5⟩:=Zeh (x:=x) 5 hx (by omega);have f1:De (v2:Int) 8=((v2%8:Nat):Int):=rfl;have f2:De (v3:Int) 24=((v3%24:Nat):Int):=rfl;have l1:=Kmc v2 (show 0<8 by decide);have l2:=Kmc v3 (show 0<24 by decide);generalize v2%8=u1 at f1 l1;generalize v3%24=u2 at f2 l2;have R:=Yj7 (f:=(u1:Int)) (Qw H) (by omega);obtain⟨p,pe,pH⟩:=H.hold;have sm:=Zhp R;obtain⟨g',p',t,g1,w1,k1,q1,q2⟩:=Ywc (s:=((s.1.1,(s.1.2.1,((u1:Int),s.1.2.2.2))),s.2)) (r:=r) (p:=p) (f:=(u1:Int)) R.dev (by simp only;rw[H.cache,H.up.1]) (by omega) pe pH (by simp only;omega) k;have hA:=Yo7 sm hr;have hP:=Zmz (Zhp (Qw H)).2 hr;simp only at g1 q1 q2;generalize Gr ((s.1.1,(s.1.2.1,((u1:Int),s.1.2.2.2))),s.2) r=X at w1 k1 q1 q2 hA;have hF:=Zwt (n:=k) (Vo k1);obtain⟨k2,k3⟩:=Oi (n:=k) k1;generalize faD X.1.1 k=d at w1 k2 hF k3;have kd:d.2=([],(-1,false)):=by rw[k3]
 obtain⟨c1,c2,c3,c4,c5⟩:=H6 (show Ce d.1 d.2.1 d.2.2.1=true from k2);have k4:dOk (d.1,(d.2.1,((u2:Int),d.2.2.2)))=true:=Qg c1 c2 (by simp only;omega) c4 c5;have hO:=Zwx (Ztx k4);obtain⟨o1,o2,o3,o4,_⟩:=Yco (f:=(u2:Int)) k4 (by simp only;rw[kd]) w1 (by omega);generalize Ma (d.1,(d.2.1,((u2:Int),d.2.2.2)))=Y at o1 o2 o3 o4 hO;have hF2:=fun n=>Zwt (n:=n) (Vo o3);have hn:Aj .i64 (Dd .i64 (v4:Int) 256) (v5:Int)=(v4:Int)*256+v5:=by rw[show Dd .i64 (v4:Int) 256=(v4:Int)*256 from Mn (by omega) (by omega),Cz (by omega) (by omega)]
 generalize (v4:Int)*256+v5=n at hn;obtain⟨g2,p2,g3,w2⟩:=o4 n;obtain⟨k5,k6⟩:=Oi (n:=n) o3;have hF2:=hF2 n;generalize faD Y.1.1 n=e at w2 k5 k6 hF2;have ke:e.2=([],(-1,false)):=by rw[k6]
 have hQ:=Zwx (Ztx k5);obtain⟨z1,z2,_,_,z5⟩:=Yco (f:=-1) k5 ke w2 (by omega);have z5:=z5 rfl;generalize Ma e=Z at z1 z2 z5 hQ;have tm:∀u:Tab,B7 u=true->smT 1048576 u:=fun u h=>(Xg h).mono (by decide);have mt:=tm t w1.tab;have ms:=(Zhp (Qw H)).2;have ma:=Yer ms hr;rw[Ye0 hx,Aa,Ac,e1,Aa];simp only[a2,a3,a4,a5,f1,f2,hn,Aa,hA,hP,hF,hO,hF2,hQ,P7,P7,o1,z1,z5,z2,Av,Ac];cases hX:X.2 with
 | true =>
  obtain⟨y1,y2⟩:=q1 hX;rw[Ad,y1,Ad,y2,Zgj ma ma,Zp3,Aa]
 | false =>
  rw[Ac];rcases q2 hX with y|⟨y1,y2⟩
  ·rw[y,Zgj ms ms,Zp3,Aa,Ad]
  rw[y1,y2,Zgj ma ms,Aa];cases Zbn (Cj s.2.1 r).1 s.2.1 with
  | true=>rw[Ad]
  | false=>rw[Ac,Ad,Zgj ma ma,Zp3,Aa]
end
end Go.Vs
