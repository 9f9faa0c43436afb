/- Part 8 of a proof. No conditions. -/
import Derived.Test.YtllggmkhjhjkpaaGreatDoorLh7
set_option maxRecDepth 100000
set_option linter.unusedVariables false
set_option linter.unusedSimpArgs false
namespace Go.Dx
open Go.IntKind (i64 u64 u8)
open Go.Sx Go.Proofs
noncomputable section
theorem hdx {x y a b n RO:Int} (Sq:a<b) (ha:-200000000<=a/\a<=200000000) (hb:-200000000<=b/\b<=200000000) (hn:a<=n/\n<=b) (hx:0<=x/\x<=RO) (hy:0<=y/\y<=RO) (hM:RO<=1000000000):fy x y a b n<=RO:=by
 have k1:=zN (x:=x) (p:=b-n) (R0:=1000000000) (B:=400000000) E E E E;have k2:=zN (x:=y) (p:=n-a) (R0:=1000000000) (B:=400000000) E E E E;have z1:=fW hx.1 (show 0<=b-n by omega);have z2:=fW hy.1 (show 0<=n-a by omega);have u1:=Fq hx.2 (show 0<=b-n by omega);have u2:=Fq hy.2 (show 0<=n-a by omega);have e:RO*(b-a)=RO*(b-n)+RO*(n-a):=by rw[← Int.mul_add];congr 1;omega
 unfold fy;rw[D5 (x:=b-n) E E,D5 (x:=n-a) E E,D5 (x:=b-a) E E,D5 (x:=x*(b-n)) E E,D5 (x:=y*(n-a)) E E,D5 E E];have f:=(lV (a:=x*(b-n)+y*(n-a)) (b:=b-a) E E E).2;refine JA (Jh (a:=b-a) ?_ E);rw[Int.add_mul,Hv];omega
section
variable {n:Nat} {f:bk} {m:Nat} {g:bk} {w:bk} {Qa RO:Int} (hu:fV n f) (U:fV m g) (hn:2<=n/\n<=12) (hm:2<=m/\m<=12) (hH:1<=Qa/\Qa<=30000) (hw:BY n m w) (h0:0<=RO) (h9:RO<=1000000000) (hM:∀i,i<n->∀k,k<m->wV w i k<=RO)
include U hm hH hw h9 hM
theorem aoW {b:Int} {i K:Nat} (hi:i<n) (hK:K+1<m) (M:tU g Qa K<=b) (N:b<=tU g Qa (K+1)) :
 fB (i:Int) (A [Ty.sl L] w) (A L (A L (bp g Qa))) (K:Int) b<=RO:=by
 have tK:=gI U hm hH K E;have tK1:=gI U hm hH (K+1) hK;have up:=lW U hm hH K hK;have e1:fB (i:Int) (A [Ty.sl L] w) (A L (A L (bp g Qa))) (K:Int) b=fy (wV w i K) (wV w i (K+1)) (tU g Qa K) (tU g Qa (K+1)) b:=by unfold fB;rw[D5 (x:=(K:Int)+1) E E,show((K:Int)+1).toNat=K+1 by omega,GR,GR];show fy (wV w i K) (wV w i (K+1)) (I (aE (g K)*Qa)) (I (aE (g (K+1))*Qa)) b=_;rw[tK.1,tK1.1];rfl
 rw[e1];exact hdx up (vu U hm hH E) (vu U hm hH hK) ⟨M,N⟩ ⟨(hw i hi K E).1,hM i hi K E⟩ ⟨(hw i hi (K+1) hK).1,hM i hi (K+1) hK⟩ h9
include hu hn h0
theorem agk {side:Int} (hs:0<=side/\side<=RO) (a b:Int):aZ w side n (A L (bp f Qa)) m (A L (bp g Qa)) a b<=RO:=by
 have _:=h0
 cases has:bg n (A L (A L (bp f Qa))) m (A L (A L (bp g Qa))) a b with
 |false=>unfold aZ;rw[has];exact hs.2
 |true=>
   obtain⟨⟨S,Z⟩,y1,y2⟩:=(AN hu U hn hm hH (a:=a) (b:=b)).1 has;obtain⟨RR,eI,I1,I2,I3,I4⟩:=Fc hu hn hH (x:=a) ⟨E,E⟩;obtain⟨K,eK,K1,K2,K3,K4⟩:=Fc U hm hH (x:=b) ⟨E,E⟩;have RJ:=pW U hm hH hw (i:=RR) E K1 K1 K2 K3 (.inl rfl);have R1:=pW U hm hH hw (i:=RR+1) I1 K1 K1 K2 K3 (.inl rfl);have yam:=aoW U hm hH hw h9 hM (i:=RR) E K1 K2 K3;have yan:=aoW U hm hH hw h9 hM (i:=RR+1) I1 K1 K2 K3;have up:=lW hu hn hH RR I1;have bI:=vu hu hn hH (show RR<n by omega);have bI1:=vu hu hn hH I1;have eA:aE (A L (bp f Qa) (RR:Int).toNat)=tU f Qa RR:=by rw[GR];exact(gI hu hn hH RR E).1
   have eB:aE (A L (bp f Qa) ((RR+1:Nat):Int).toNat)=tU f Qa (RR+1):=by rw[GR];exact(gI hu hn hH (RR+1) I1).1
   unfold aZ;rw[has,IA,cond_false,eI,eK,D5 (x:=(RR:Int)+1) E E,show(RR:Int)+1=((RR+1:Nat):Int) by omega,eA,eB];exact hdx up bI bI1 ⟨I2,I3⟩ ⟨RJ.2.2.1,yam⟩ ⟨R1.2.2.1,yan⟩ h9
theorem yaR {side:Int} (hs:0<=side/\side<=RO) (R S y0 y1:Int):(Ey w side n (A L (bp f Qa)) m (A L (bp g Qa)) R S y0 y1).2<=RO:=by obtain⟨_,u,v,_,h⟩:=aqA w side n (A L (bp f Qa)) m (A L (bp g Qa)) R S y0 y1;rw[← h];exact agk hu U hn hm hH hw h0 h9 hM hs u v
end
theorem ahE {j k RO RG B:Int} (hj:0<=j/\j<=RO) (hM:RO<=1000000000) (W:0<=k/\k<=RG) (hL:RG<=1000000) (hB:RO*RG<=1000*B):bF (I (j*k)) 1000<=B:=by have b:=TH (i:=j) (f:=k) ⟨hj.1,E⟩ ⟨W.1,E⟩;rw[b.1];have m:=j5 hj.1 hj.2 W.1 W.2;have c:=(lV (a:=j*k) (b:=1000) Ej E E).2;omega
end
noncomputable section
section
variable {a b R0:Int} (hb:1<=b) (h:0<=a) (hA:a<=R0*b) (h9:a<=4000000000000000000)
include a b R0 hb h hA h9
theorem AB:0<=bE a b/\bE a b<=R0:=by refine⟨Bb E h9 h,?_⟩;exact HT (Fg (sZ E E h9).1 hA) E
theorem zw:0<=bF a b/\bF a b<=R0:=by refine⟨AI E h9 h,?_⟩;have k:=(lV (a:=a) (b:=b) E E h9).2;refine JA (Jh (a:=b) ?_ E);rw[Int.add_mul,Hv];omega
end
section
variable {tw tv At Qa r:Int} (h0:0<=tw) (h:tw<=tv) (U:tv<=100000000) (hH:1<=Qa/\Qa<=20000) (hq:10000<=At) (hr:1<=r)
include h0 h U hH hq hr
theorem Pz :
 (cL (I (1000*cL (I (I (1000*tw)*Qa)) At)) r<=cL (I (1000*cL (I (I (1000*tv)*Qa)) At)) r /\
  cN (I (1000*cN (I (I (1000*tw)*Qa)) At)) r<=cN (I (1000*cN (I (I (1000*tv)*Qa)) At)) r) /\
 (0<=cL (I (1000*cL (I (I (1000*tw)*Qa)) At)) r/\cL (I (1000*cL (I (I (1000*tw)*Qa)) At)) r<=200000000000000) /\
 0<=cN (I (1000*cN (I (I (1000*tw)*Qa)) At)) r/\cN (I (1000*cN (I (I (1000*tw)*Qa)) At)) r<=200000000000000:=by
 have b1:=gC (x:=1000*tw) (X:=100000000000) (p:=Qa) (Qe:=20000) ⟨E,E⟩ ⟨E,hH.2⟩;have b2:=gC (x:=1000*tv) (X:=100000000000) (p:=Qa) (Qe:=20000) ⟨E,E⟩ ⟨E,hH.2⟩;have m1:=j5 (x:=1000*tw) (y:=1000*tv) (p:=Qa) (r:=Qa) E E E (Ep Qa);rw[D5 (x:=1000*tw) E E,D5 (x:=1000*tv) E E,D5 (x:=1000*tw*Qa) E E,D5 (x:=1000*tv*Qa) E E];simp only[xM,xZ];have q1:1000*tw*Qa<=200000000000*At:=by omega
 have q2:1000*tv*Qa<=200000000000*At:=by omega
 have f1:=AB (a:=1000*tw*Qa) (b:=At) (R0:=200000000000) E b1.1 q1 E;have Q:=AB (a:=1000*tv*Qa) (b:=At) (R0:=200000000000) E b2.1 q2 E;have c1:=zw (a:=1000*tw*Qa) (b:=At) (R0:=200000000000) E b1.1 q1 E;have c2:=zw (a:=1000*tv*Qa) (b:=At) (R0:=200000000000) E b2.1 q2 E;have g1:=jK (a:=1000*tw*Qa) (c:=1000*tv*Qa) (b:=At) E E E m1;have g2:=kD (a:=1000*tw*Qa) (c:=1000*tv*Qa) (b:=At) E E E m1;revert f1 Q c1 c2 g1 g2;generalize bE (1000*tw*Qa) At=S;generalize bE (1000*tv*Qa) At=Z;generalize bF (1000*tw*Qa) At=y1;generalize bF (1000*tv*Qa) At=y2;intro f1 Q c1 c2 g1 g2;rw[D5 (x:=1000*S) E E,D5 (x:=1000*Z) E E,D5 (x:=1000*y1) E E,D5 (x:=1000*y2) E E];have s:∀z:Int,0<=z->z<=200000000000000->z<=200000000000000*r:=λz M N=>by omega
 exact⟨⟨jK E E E E,kD E E E E⟩,AB hr E (s _ E E) E,zw hr E (s _ E E) E⟩
end
section
variable {tw tv At r:Int} (h0:0<=tw) (h:tw<=tv) (U:tv<=100000000) (hq:10000<=At) (hr:0<=r/\r<=1000000)
include h0 h U hq hr
theorem aaD :
 (I (100*cL (I (I (1000*tw)*r)) At)<=I (100*cL (I (I (1000*tv)*r)) At) /\
  I (100*cN (I (I (1000*tw)*r)) At)<=I (100*cN (I (I (1000*tv)*r)) At)) /\
 (0<=I (100*cL (I (I (1000*tw)*r)) At)/\I (100*cL (I (I (1000*tw)*r)) At)<=1000000000000000) /\
 0<=I (100*cN (I (I (1000*tw)*r)) At)/\I (100*cN (I (I (1000*tw)*r)) At)<=1000000000000000:=by
 have b1:=gC (x:=1000*tw) (X:=100000000000) (p:=r) (Qe:=1000000) ⟨E,E⟩ hr;have b2:=gC (x:=1000*tv) (X:=100000000000) (p:=r) (Qe:=1000000) ⟨E,E⟩ hr;have m1:=j5 (x:=1000*tw) (y:=1000*tv) (p:=r) (r:=r) E E hr.1 (Ep r);rw[D5 (x:=1000*tw) E E,D5 (x:=1000*tv) E E,D5 (x:=1000*tw*r) E E,D5 (x:=1000*tv*r) E E];simp only[xM,xZ];have q1:1000*tw*r<=10000000000000*At:=by omega
 have q2:1000*tv*r<=10000000000000*At:=by omega
 have f1:=AB (a:=1000*tw*r) (b:=At) (R0:=10000000000000) E b1.1 q1 E;have Q:=AB (a:=1000*tv*r) (b:=At) (R0:=10000000000000) E b2.1 q2 E;have c1:=zw (a:=1000*tw*r) (b:=At) (R0:=10000000000000) E b1.1 q1 E;have c2:=zw (a:=1000*tv*r) (b:=At) (R0:=10000000000000) E b2.1 q2 E;have g1:=jK (a:=1000*tw*r) (c:=1000*tv*r) (b:=At) E E E m1;have g2:=kD (a:=1000*tw*r) (c:=1000*tv*r) (b:=At) E E E m1;revert f1 Q c1 c2 g1 g2;generalize bE (1000*tw*r) At=S;generalize bE (1000*tv*r) At=Z;generalize bF (1000*tw*r) At=y1;generalize bF (1000*tv*r) At=y2;intro f1 Q c1 c2 g1 g2;rw[D5 (x:=100*S) E E,D5 (x:=100*Z) E E,D5 (x:=100*y1) E E,D5 (x:=100*y2) E E];omega
end
section
variable {a c b C:Int} (hb:1<=b) (h0:0<=a) (h:a<=c) (hC:c<=C*b) (h9:c<=4000000000000000000)
include a c b C hb h0 h hC h9
theorem abH:0<=cL a b/\cL a b<=cL c b/\cL c b<=C:=by rw[xM,xM];exact⟨Bb E E h0,jK E E E h,(AB hb E hC h9).2⟩
theorem hX':0<=cN a b/\cN a b<=cN c b/\cN c b<=C:=by rw[xZ,xZ];exact⟨AI E E h0,kD E E E h,(zw hb E hC h9).2⟩
end
section
variable {t u Qe:Int} (h0:0<=t) (h:t<=u) (hu:u<=100000000) (hQ:10000<=Qe)
include h0 h hu hQ
end
section
variable {n:Nat} {f:bk} {m:Nat} {g:bk} {w:bk} {Qa:Int} (hu:fV n f) (U:fV m g) (hn:2<=n/\n<=12) (hm:2<=m/\m<=12) (hH:1<=Qa/\Qa<=30000) (hw:BY n m w)
include hu U hn hm hH hw
theorem aif {u v R S y0 y1 s1:Int} (yat:u=R∨u=S) (cv:v=y0∨v=y1) (h:bg n (A L (bp f Qa)) m (A L (bp g Qa)) u v=false) :
 (Ey w s1 n (A L (bp f Qa)) m (A L (bp g Qa)) R S y0 y1).1<=0:=by
 have _:=hu;have _:=U;have _:=hn;have _:=hm;have _:=hH;have _:=hw
 have c:=(asL w s1 n (A L (bp f Qa)) m (A L (bp g Qa)) (R:=R) (S:=S) (y0:=y0) (y1:=y1) (u:=u) (v:=v) (.inl ⟨yat,cv⟩)).1;refine Fg c ?_;unfold bc;rw[db,db,h];exact Ep 0
theorem anR {a b R S y0 y1 p0 p1 q0 q1 s1 s2:Int} (hx:R<=a/\a<=S) (hy:y0<=b/\b<=y1) (hp:p0<=a/\a<=p1) (hq:q0<=b/\b<=q1) :
 (Ey w s1 n (A L (bp f Qa)) m (A L (bp g Qa)) R S y0 y1).1<=0 ∨
 (Ey w s1 n (A L (bp f Qa)) m (A L (bp g Qa)) R S y0 y1).1<=(Ey w s2 n (A L (bp f Qa)) m (A L (bp g Qa)) p0 p1 q0 q1).2:=by
 have A7:=λ{u v:Int}=>aif hu U hn hm hH hw (u:=u) (v:=v) (R:=R) (S:=S) (y0:=y0) (y1:=y1) (s1:=s1);have Qo:∀ {u v:Int},¬ ((tU f Qa 0<=u/\u<=tU f Qa (n-1))/\tU g Qa 0<=v/\v<=tU g Qa (m-1))->bg n (A L (bp f Qa)) m (A L (bp g Qa)) u v=false:=λ{u v} h=>by
  cases k:bg n (A L (bp f Qa)) m (A L (bp g Qa)) u v with
  |false=>rfl|true=>exact absurd ((al4 hu U hn hm hH).1 k) h
 by_cases a0:tU f Qa 0<=a
 ·by_cases a1:a<=tU f Qa (n-1)
  ·by_cases b0:tU g Qa 0<=b
   ·by_cases b1:b<=tU g Qa (m-1)
    ·right;obtain⟨i,hi,i1,i2⟩:=ash hu hn hH ⟨a0,a1⟩;obtain⟨k,W,k1,k2⟩:=ash U hm hH ⟨b0,b1⟩;have lo:=(D8 hu U hn hm hH hw (R:=R) (S:=S) (y0:=y0) (y1:=y1) (side:=s1) (s:=1) (a:=a) (b:=b) Ej hi W E E E E).1;have Rk:=(D8 hu U hn hm hH hw (R:=p0) (S:=p1) (y0:=q0) (y1:=q1) (side:=s2) (s:=1) (a:=a) (b:=b) Ej hi W E E E E).2;have up:=lW hu hn hH i hi;have resV:=lW U hm hH k W;have AT:0<(tU f Qa (i+1)-tU f Qa i)*(tU g Qa (k+1)-tU g Qa k):=H5 E E;have t:=Fg lo Rk;rw[Hv,Hv,Hv]at t;exact HT t AT
    ·exact .inl (A7 (.inl rfl) (.inr rfl) (Qo λh=>b1 E))
   ·exact .inl (A7 (.inl rfl) (.inl rfl) (Qo λh=>b0 E))
  ·exact .inl (A7 (.inr rfl) (.inl rfl) (Qo λh=>a1 E))
 ·exact .inl (A7 (.inl rfl) (.inl rfl) (Qo λh=>a0 E))
end
section
variable {x:List V} (t:nm x) (u:fV (aU (aM (ap x))) (du (aM (ap x)))) (v:fV (aU (aM (ap (ap x)))) (du (aM (ap (ap x)))))
include t u v
theorem abb {d:Int} (hd:1<=d/\d<=30000) {a b a0 a1 b0 b1 A0 A1 B0 B1:Int} (YP:-200000<=a0/\a0<=200000) (Vv:-200000<=a1/\a1<=200000) (SH:-200000<=b0/\b0<=200000) (SU:-200000<=b1/\b1<=200000) (hA0:-200000<=A0/\A0<=200000) (hA1:-200000<=A1/\A1<=200000) (hB0:-200000<=B0/\B0<=200000) (hB1:-200000<=B1/\B1<=200000)
 (hx:a0<=a/\a<=a1) (hy:b0<=b/\b<=b1) (hX:A0<=a/\a<=A1) (hY:B0<=b/\b<=B1):vb x a0 a1 b0 b1 d<=0∨vb x a0 a1 b0 b1 d<=sD x A0 A1 B0 B1 d:=by
 have w:∀{z:Int},-200000<=z/\z<=200000->I (1000*z)=1000*z:=λh=>D5 E E;have k:=anR u v t.u t.v hd (X6 t) (s1:=eV x) (s2:=eV x) (a:=1000*a) (b:=1000*b) (R:=1000*a0) (S:=1000*a1) (y0:=1000*b0) (y1:=1000*b1) (p0:=1000*A0) (p1:=1000*A1) (q0:=1000*B0) (q1:=1000*B1) E E E E;unfold vb sD iX iY;rw[w YP,w Vv,w SH,w SU,w hA0,w hA1,w hB0,w hB1];exact k
end
section
variable {H:Nat} {G:bk} {T:Nat} {Q:bk} {O x5 x6 x7:Int} (RG:WG H G T Q O) (hu:fj x5 x6 x7=false)
include RG hu
theorem an0 {d a b a0 a1 b0 b1 A0 A1 B0 B1:Int} (h:CI H G T Q O x5 x6 x7 a0 a1 b0 b1 d=0) (k:CI H G T Q O x5 x6 x7 A0 A1 B0 B1 d=0)
 (hx:a0<=a/\a<=a1) (hy:b0<=b/\b<=b1) (hX:A0<=a/\a<=A1) (hY:B0<=b/\b<=B1):e8 H G T Q O x5 x6 x7 a0 a1 b0 b1 d<=dR H G T Q O x5 x6 x7 A0 A1 B0 B1 d:=by
 have f:=Ov RG hu;have r1:=(Oz h).2.2;have r2:=(Oz k).2.2;rw[sI]at r1 r2;obtain⟨hd,YP,Vv,SH,SU⟩:=Vo r1;obtain⟨_,hA0,hA1,hB0,hB1⟩:=Vo r2;have At:=abb RG.tb RG.u RG.v hd YP Vv SH SU hA0 hA1 hB0 hB1 hx hy hX hY;have t:=(Dv RG.tb RG.u RG.v hd a0 a1 b0 b1).1;have t':=(Dv RG.tb RG.u RG.v hd A0 A1 B0 B1).2;unfold e8 dR;rw[h,k];exact ajA t t' At f.1 f.2.1 f.2.2
end
theorem OS {a c b e:Int} (he:1<=e) (h:e<=b) (h0:0<=a) (if10:a<=c) (h9:c<=4000000000000000000):cL a b<=cN c e:=by rw[xM,xZ];have x:=(sZ (a:=a) (b:=b) E E E).1;have y:=(lV (a:=c) (b:=e) E E E).1;have y0:=AI (a:=c) (b:=e) E E E;have z:=oo h y0;exact HT (Fg x (Fg if10 (Fg y z))) E
theorem af1 {a b:Nat} (h:a<=b):eb a<=eb b:=by
 have p:=(jE a).1;have At:=(jE b).2;rcases Hl (eb b) (eb a) with k|k
 ·have:=Hz (show eb b+1<=eb a from k) (show eb b+1<=eb a from k);omega
 ·exact k
theorem Uv {p At:Int} (h:p<=At) (M:1<=p) (h9:At<=3999999999999999999):1<=fG p/\fG p<=gk At:=by
 have c:iW p<=iW At:=by unfold iW;omega
 have m:=af1 c;have pos:=C48 (n:=iW p) (by unfold iW;omega);have top:eb (iW At)<2000000000:=by
  have k:=(jE (iW At)).1;have:iW At<4000000000000000000:=by unfold iW;omega
  rcases Hl (eb (iW At)) 2000000000 with z|z
  ·exact z
  ·have:=Hz z z;omega
 unfold gk fG;refine⟨E,?_⟩;cases decide (I ((eb (iW At):Int)*(eb (iW At):Int))<At) with
 |true=>rw[cond_true,D5 E E];omega|false=>rw[cond_false];omega
section
variable {tw tv Qa r:Int} (h0:0<=tw) (h:tw<=tv) (U:tv<=100000000)
include h0 h U
theorem am5 {p At:Int} (hH:1<=Qa/\Qa<=20000) (hp:10000<=p) (SX:p<=At) (hq:At<=3999999999999999999) :
 cL (I (1000*cL (I (I (1000*tw)*Qa)) At)) (gk At)<=cN (I (1000*cN (I (I (1000*tv)*Qa)) p)) (fG p):=by
 have b1:=gC (x:=1000*tw) (X:=100000000000) (p:=Qa) (Qe:=20000) ⟨E,E⟩ ⟨E,hH.2⟩;have b2:=gC (x:=1000*tv) (X:=100000000000) (p:=Qa) (Qe:=20000) ⟨E,E⟩ ⟨E,hH.2⟩;have m1:=j5 (x:=1000*tw) (y:=1000*tv) (p:=Qa) (r:=Qa) E E E (Ep Qa);have rt:=Uv SX E hq;rw[D5 (x:=1000*tw) E E,D5 (x:=1000*tv) E E,D5 (x:=1000*tw*Qa) E E,D5 (x:=1000*tv*Qa) E E];have f:=abH (a:=1000*tw*Qa) (c:=1000*tw*Qa) (b:=At) (C:=200000000000) E b1.1 (Ep _) E E;have c:=hX' (a:=1000*tv*Qa) (c:=1000*tv*Qa) (b:=p) (C:=200000000000) E b2.1 (Ep _) E E;have k:=OS (a:=1000*tw*Qa) (c:=1000*tv*Qa) (b:=At) (e:=p) E SX b1.1 m1 E;revert f c k;generalize cL (1000*tw*Qa) At=x;generalize cN (1000*tv*Qa) p=y;intro f c k;rw[D5 (x:=1000*x) E E,D5 (x:=1000*y) E E];exact OS rt.1 rt.2 E E E
theorem alY {At s:Int} (hq:10000<=At) (hr:0<=r) (Xe:r<=s) (hs:s<=1000000) :
 I (100*cL (I (I (1000*tw)*r)) At)<=I (100*cN (I (I (1000*tv)*s)) At):=by
 have b1:=gC (x:=1000*tw) (X:=100000000000) (p:=r) (Qe:=1000000) ⟨E,E⟩ ⟨hr,E⟩;have b2:=gC (x:=1000*tv) (X:=100000000000) (p:=s) (Qe:=1000000) ⟨E,E⟩ ⟨E,hs⟩;have m1:=j5 (x:=1000*tw) (y:=1000*tv) (p:=r) (r:=s) E E hr Xe;rw[D5 (x:=1000*tw) E E,D5 (x:=1000*tv) E E,D5 (x:=1000*tw*r) E E,D5 (x:=1000*tv*s) E E];have f:=abH (a:=1000*tw*r) (c:=1000*tw*r) (b:=At) (C:=10000000000000) E b1.1 (Ep _) E E;have c:=hX' (a:=1000*tv*s) (c:=1000*tv*s) (b:=At) (C:=10000000000000) E b2.1 (Ep _) E E;have k:=OS (a:=1000*tw*r) (c:=1000*tv*s) (b:=At) (e:=At) E (Ep At) b1.1 m1 E;revert f c k;generalize cL (1000*tw*r) At=x;generalize cN (1000*tv*s) At=y;intro f c k;rw[D5 (x:=100*x) E E,D5 (x:=100*y) E E];omega
end
theorem f10 {p At x:Int} (hp:-1000000000<=p/\p<=1000000000) (hq:-1000000000<=At/\At<=1000000000) (h:p<=x/\x<=At):x*x<=iq p At/\iq p At<=1000000000000000000:=by
 have a:=Bl hp;have b:=Bl hq;have a0:=wT p;have b0:=wT At;unfold iq;rw[D5 (x:=p*p) E E,D5 (x:=At*At) E E];refine⟨?_,E⟩;rcases I9 0 x with k|k
 ·have:=G6 (p:=x) (x:=At) ⟨k,h.2⟩;omega
 ·have:=G6 (p:=-x) (x:=-p) ⟨E,E⟩;rw[Ij,Ij]at this;omega
theorem asA {H:Nat} {G:bk} {T:Nat} {Q:bk} {O:Int} {n5:Nat} {f5:bk} {n7:Nat} {f7:bk} {n9:Nat} {f9:bk} {q:Nat} {Y:bk} {Qm:Nat} {Qd:bk} {Qu:Nat} {Qf:bk} (h:ej H G T Q O n5 f5 n7 f7 n9 f9 q Y Qm Qd Qu Qf=0):dA H G T Q=0:=by have h:(NV H G T Q O n5 f5 n7 f7 n9 f9 q Y Qm Qd Qu Qf).2.2=0:=h;unfold NV at h;exact(Kp h).1
theorem akX {H:Nat} {G:bk} {T:Nat} {Q:bk} (h:dA H (A ao G) T (A al Q)=0) (hn:T<=1000) {x:Int} (h0:0<=x) (M:x<(T:Int)):cD H (A ao G) T (A al Q) x=0:=by rw[iw1];unfold Cc;rw[db,db,h,D5 (x:=(T:Int)-1) E E];unfold bz;rw[BH (show 0<=x by omega),BH (show x<=(T:Int)-1 by omega)];rfl
theorem Fb {a b c d e g:Bool} (h:yW a b c d e g=0):a=true/\b=true/\c=true/\d=true/\(e=true->g=false):=by
 have key:∀a b c d e g:Bool,yW a b c d e g=0->(a&&b&&c&&d&&!(e&&g))=true:=by decide
 have k:=key a b c d e g h;simp only[Eg,Hu]at k;obtain⟨⟨⟨⟨k1,k2⟩,k3⟩,k4⟩,k5⟩:=k;exact⟨k1,k2,k3,k4,λhe=>by rw[he]at k5;exact k5⟩
section
variable {T:Nat} {G Q Qd Qf:bk} {i:Nat} (h:zf G T Q Qd Qf i=0)
include h
theorem ne6:fj (aE (Qf i)) (bM (Qf i)) (d9 (Qf i))=false:=by obtain⟨_,hb,hc,hd,_⟩:=Fb h;unfold fj;rw[show aw (aE (Qf i)) 0 200000=true from hb,show aw (bM (Qf i)) 0 600=true from hc,show aw (d9 (Qf i)) 0 1000=true from hd];rfl
theorem ah7 (hn:T<=1000):-1<=aE (Qd i)/\aE (Qd i)<(T:Int):=by obtain⟨ha,_⟩:=Fb h;have ha:bz (aE (Qd i)) (-1) (I ((T:Int)-1))=true:=ha;rw[D5 (x:=(T:Int)-1) E E]at ha;have:=qt ha;omega
theorem ny5 {H:Nat} (ho:0<=aE (Qd i)) (hl:WS H (Q (aE (Qd i)).toNat)) (ht:nm (G (bM (Q (aE (Qd i)).toNat)).toNat))
 (hm:CK (G (bM (Q (aE (Qd i)).toNat)).toNat)<=10000000) (h0:0<=CK (G (bM (Q (aE (Qd i)).toNat)).toNat)) :
 max (CK (G (bM (Q (aE (Qd i)).toNat)).toNat)) (ck (G (bM (Q (aE (Qd i)).toNat)).toNat))*cH (Q (aE (Qd i)).toNat)<=100000000000:=by
 obtain⟨_,_,_,_,hg⟩:=Fb h;have g:=H3 (hg (BH ho));have s:=ht.sky;have l:=hl.lum;have m:=gC (x:=max (CK (G (bM (Q (aE (Qd i)).toNat)).toNat)) (ck (G (bM (Q (aE (Qd i)).toNat)).toNat))) (X:=10000000) (p:=cH (Q (aE (Qd i)).toNat)) (Qe:=1000000) ⟨E,E⟩ ⟨E,E⟩;rw[D5 E E]at g;omega
end
section
variable {RG a b h m lv:Int} (hL:0<=RG/\RG<=1000000) (u:yy a b h m lv)
include hL u
theorem rdY:Is RG a b h m lv<=RG:=by obtain⟨e1,e2,hA,hB⟩:=TZ u;have t1:=qC (X:=RG) ⟨hL.1,Ep RG⟩ hL.2 (At:=1000000) Ej hA;have t2:=qC t1 hL.2 (At:=1000) Ej hB;exact(qC t2 hL.2 (At:=1000) Ej u.lv).2
end
theorem afy {p:Nat->Int} {z B:Int} (hz:z<=B):∀ {n:Nat},(∀ i,i<n->p i<=B)->vY p z n<=B
 |0,_=>hz
 |n+1,h=>by show max (vY p z n) (p n)<=B;have a:=afy hz (n:=n) λi hi=>h i E;have b:=h n E;omega
theorem C64 {l:Nat->Nat} {v:Nat->Nat->Int} {z B:Int} (hz:z<=B):∀ {n:Nat},(∀ i,i<n->∀ k,k<l i->v i k<=B)->JP l v z n<=B
 |0,_=>hz
 |n+1,h=>by show vY (v n) (JP l v z n) (l n)<=B;exact afy (C64 hz λi hi=>h i E) λk W=>h n E k W
theorem Gk {x:List V} (t:nm x):0<=CK x/\CK x<=10000000/\eV x<=CK x/\∀i,i<aU (aM (ap x))->∀k,k<aU (aM (ap (ap x)))->wV (uQ x) i k<=CK x:=by have s:=t.side;have m:=ala t (eV x);have e:CK x=Ab (ET x) (uQ x) (eV x):=rfl;rw[e];refine⟨E,?_,m.1,m.2⟩;exact C64 (l:=λi=>aU (aM (uQ x i))) (v:=λi j=>aE (du (aM (uQ x i)) j)) s.2 λi hi k W=>(t.val i hi k W).2
end
noncomputable section
structure uf (H:Nat) (G:bk) (T:Nat) (Q Qd Qf:bk) (k:Nat):Prop where
 cat:dA H (A ao G) T (A al Q)=0
 l2:T<=20
 on:0<=(aE (Qd k))
 ix:(aE (Qd k))<(T:Int)
 lm:WS H (A al Q (aE (Qd k)).toNat)
 tb:nm (A ao G (bM (A al Q (aE (Qd k)).toNat)).toNat)
 co:zf (A ao G) T (A al Q) Qd Qf k=0
theorem aeg {H:Nat} {G:bk} {T:Nat} {Q:bk} {O:Int} {n5:Nat} {f5:bk} {n7:Nat} {f7:bk} {n9:Nat} {f9:bk} {q:Nat} {Y:bk} {Qm:Nat} {Qd:bk} {Qu:Nat} {Qf:bk} (hc:dA H (A ao G) T (A al Q)=0) (SK:hd' H (A ao G) T (A al Q) O n5 f5 n7 f7 n9 f9 q Y Qm Qd Qu Qf) {k:Nat} (W:k<q) (ho:LE Qd k=true):uf H G T Q Qd Qf k:=by have l2:=SK.v2.l2;have co:=SK.co k W;have ho:=Fv ho;have c:=ah7 co E;have lm:=SK.lm (aE (Qd k)).toNat E;have t:=lm.t;exact⟨hc,l2,ho,c.2,lm,SK.tb (bM (A al Q (aE (Qd k)).toNat)).toNat E,co⟩
section
variable {H:Nat} {G:bk} {T:Nat} {Q Qd Qf:bk} {k:Nat} (t:uf H G T Q Qd Qf k)
include t
theorem uf.e85:cD H (A ao G) T (A al Q) (aE (Qd k))=0:=akX t.cat (by have:=t.l2;omega) t.on t.ix
theorem uf.use:fj (aE (Qf k)) (bM (Qf k)) (d9 (Qf k))=false:=ne6 t.co
theorem uf.lamp:WG H (A ao G) T (A al Q) (aE (Qd k)):=wil t.e85
theorem uf.idx:bP H (A ao G) T (A al Q) (aE (Qd k))=(bM (A al Q (aE (Qd k)).toNat))/\dV H (A ao G) T (A al Q) (aE (Qd k))=(cH (A al Q (aE (Qd k)).toNat))/\e7 H (A ao G) T (A al Q) (aE (Qd k))=(ck (ap (ap (A al Q (aE (Qd k)).toNat))))/\fi H (A ao G) T (A al Q) (aE (Qd k))=(ck (ap (ap (ap (ap (A al Q (aE (Qd k)).toNat)))))):=by have l0:=ajD t.e85;rw[db,db]at l0;unfold bP dV e7 fi;rw[db,db,l0.1,l0.2];exact⟨rfl,rfl,rfl,rfl⟩
theorem uf.big:max (CK (A ao G (bM (A al Q (aE (Qd k)).toNat)).toNat)) (ck (A ao G (bM (A al Q (aE (Qd k)).toNat)).toNat))*(cH (A al Q (aE (Qd k)).toNat))<=100000000000:=by have g:=Gk t.tb;exact ny5 t.co t.on t.lm t.tb g.2.1 g.1
theorem uf.flux:gP (cH (A al Q (aE (Qd k)).toNat)) (ck (ap (ap (A al Q (aE (Qd k)).toNat)))) (ck (ap (ap (ap (ap (A al Q (aE (Qd k)).toNat)))))) (aE (Qf k)) (bM (Qf k)) (d9 (Qf k))<=(cH (A al Q (aE (Qd k)).toNat))/\0<=gP (cH (A al Q (aE (Qd k)).toNat)) (ck (ap (ap (A al Q (aE (Qd k)).toNat)))) (ck (ap (ap (ap (ap (A al Q (aE (Qd k)).toNat)))))) (aE (Qf k)) (bM (Qf k)) (d9 (Qf k)):=by have RG:=t.lamp;have i:=t.idx;have n23:=(Ov RG t.use).2.1.1;obtain⟨M,N,h3⟩:=aoB t.use;have a:=RG.ag;have b:=RG.di;have l:=RG.l;rw[i.2.1,i.2.2.1,i.2.2.2]at n23;rw[i.2.2.1]at a;rw[i.2.2.2]at b;rw[i.2.1]at l;have u0:yy (ck (ap (ap (A al Q (aE (Qd k)).toNat)))) (ck (ap (ap (ap (ap (A al Q (aE (Qd k)).toNat)))))) (aE (Qf k)) (bM (Qf k)) (d9 (Qf k)):=⟨E,E,M,N,h3⟩;refine⟨?_,n23⟩;have e:=O1 l u0;unfold gP;rw[e.2.1];exact rdY l u0
theorem uf.top {j RO:Int} (hj:0<=j) (hM:j<=RO) (h:RO*(cH (A al Q (aE (Qd k)).toNat))<=100000000000) (h9:RO<=1000000000):0<=bF (I (j*gP (cH (A al Q (aE (Qd k)).toNat)) (ck (ap (ap (A al Q (aE (Qd k)).toNat)))) (ck (ap (ap (ap (ap (A al Q (aE (Qd k)).toNat)))))) (aE (Qf k)) (bM (Qf k)) (d9 (Qf k)))) 1000/\bF (I (j*gP (cH (A al Q (aE (Qd k)).toNat)) (ck (ap (ap (A al Q (aE (Qd k)).toNat)))) (ck (ap (ap (ap (ap (A al Q (aE (Qd k)).toNat)))))) (aE (Qf k)) (bM (Qf k)) (d9 (Qf k)))) 1000<=100000000:=by have x:=t.flux;have l:=t.lm.lum;refine⟨?_,ahE ⟨hj,hM⟩ h9 ⟨x.2,x.1⟩ E E⟩;exact(Nk ⟨hj,E⟩ ⟨x.2,E⟩).2.1
theorem uf.tw (a b c e d:Int):0<=dR H (A ao G) T (A al Q) (aE (Qd k)) (aE (Qf k)) (bM (Qf k)) (d9 (Qf k)) a b c e d/\dR H (A ao G) T (A al Q) (aE (Qd k)) (aE (Qf k)) (bM (Qf k)) (d9 (Qf k)) a b c e d<=100000000:=by
 have RG:=t.lamp;have i:=t.idx;have g:=Gk t.tb;have s:=t.tb.sky;unfold dR;cases h:CI H (A ao G) T (A al Q) (aE (Qd k)) (aE (Qf k)) (bM (Qf k)) (d9 (Qf k)) a b c e d==0 with
 |false=>exact⟨Ep 0,by show(0:Int)<=_;decide⟩
 |true=>have r1:=(Oz (HK h)).2.2;rw[sI]at r1;obtain⟨hd,_⟩:=Vo r1;have tb:=RG.tb;have u:=RG.u;have v:=RG.v;rw[i.1]at tb u v;have o:sD (A ao G (bM (A al Q (aE (Qd k)).toNat)).toNat) a b c e d<=CK (A ao G (bM (A al Q (aE (Qd k)).toNat)).toNat):=yaR u v tb.u tb.v hd (X6 tb) g.1 E (λi hi k W=>g.2.2.2 i hi k W) ⟨tb.side.1,g.2.2.1⟩ _ _ _ _;have nzb8:=(Dv tb u v hd a b c e).2.1;have At:=t.top nzb8 (show _<=max (CK (A ao G (bM (A al Q (aE (Qd k)).toNat)).toNat)) (ck (A ao G (bM (A al Q (aE (Qd k)).toNat)).toNat)) by omega) t.big E;show 0<=M5 H (A ao G) T (A al Q) (aE (Qd k)) (aE (Qf k)) (bM (Qf k)) (d9 (Qf k)) a b c e d/\M5 H (A ao G) T (A al Q) (aE (Qd k)) (aE (Qf k)) (bM (Qf k)) (d9 (Qf k)) a b c e d<=100000000;unfold M5;rw[i.1,i.2.1,i.2.2.1,i.2.2.2];exact At
end
structure lP (x y a b c d:Int):Prop where
 la:-100000<=a
 lb:-100000<=b
 uc:c<=100000
 ud:d<=100000
 ix:a<=x/\x<=c
 iy:b<=y/\y<=d
theorem fx2 {Ro how' lo hi:Int} (h:lo<=hi) (h0:0<=hi) (r:0<=Ro/\Ro<=2) (hs:Ro=0->how'=2->False):mo Ro lo<=lX how' hi:=by
 unfold mo lX;by_cases N:Ro=2
 ·rw[N];show 0<=bif how'==2 then 0 else hi;cases how'==2<;>first|exact h0|exact Ep 0
 ·by_cases M:Ro=1
  ·rw[M];show 0<=bif how'==2 then 0 else hi;cases how'==2<;>first|exact h0|exact Ep 0
  ·have e:Ro=0:=by omega
   have k:(how'==2)=false:=by simpa using λz=>hs e z
   rw[e,k];exact h
theorem TU {Ro lo B:Int} (h:0<=lo/\lo<=B):(0<=mo Ro lo/\mo Ro lo<=B)/\0<=lX Ro lo/\lX Ro lo<=B:=by unfold mo lX;cases Ro==2<;>cases Ro==1<;>exact⟨⟨by first|exact h.1|exact Ep 0,by first|exact h.2|exact Fg h.1 h.2⟩,by first|exact h.1|exact Ep 0,by first|exact h.2|exact Fg h.1 h.2⟩
theorem BM {dx dy:Int} (hd:Hd dx dy) {R S y0 y1 X R6:Int} (Uf:Bd R) (Ug:Bd S) (Uh:Bd y0) (Ui:Bd y1) (hx:R<=X/\X<=S) (hy:y0<=R6/\R6<=y1) :
 (dJ R S y0 y1 dx dy<=dJ X X R6 R6 dx dy/\dJ X X R6 R6 dx dy<=fk R S y0 y1 dx dy)/\(dL R S y0 y1 dx dy<=dL X X R6 R6 dx dy/\dL X X R6 R6 dx dy<=fe R S y0 y1 dx dy) /\
 ∀h:Int,1<=h/\h<=30000->eO (dJ R S y0 y1 dx dy) (fk R S y0 y1 dx dy) (dL R S y0 y1 dx dy) (fe R S y0 y1 dx dy) h=0:=by
 have At:=ajV hd Uf Ug Uh Ui hx hy;have B:=OL hd R S y0 y1;exact⟨At.1,At.2,λh hh=>amB hh B.1 B.2.1 B.2.2.1 B.2.2.2 (Fg At.1.1 At.1.2) (Fg At.2.1 At.2.2)⟩
section
variable {cx cy x y a b c d:Int} (hx:-100000<=cx/\cx<=100000) (hy:-100000<=cy/\cy<=100000) (p:lP x y a b c d)
include cx cy x y a b c d hx hy p
theorem hbn :
 (Bd (I (a-cx))/\Bd (I (c-cx))/\Bd (I (b-cy))/\Bd (I (d-cy)))/\(I (a-cx)<=I (x-cx)/\I (x-cx)<=I (c-cx))/\I (b-cy)<=I (y-cy)/\I (y-cy)<=I (d-cy):=by
 have p1:=p.la;have p2:=p.lb;have p3:=p.uc;have p4:=p.ud;have p5:=p.ix;have p6:=p.iy;rw[D5 (x:=a-cx) E E,D5 (x:=b-cy) E E,D5 (x:=c-cx) E E,D5 (x:=d-cy) E E,D5 (x:=x-cx) E E,D5 (x:=y-cy) E E];unfold Bd;omega
theorem aa0 :
 (Bd (I (cx-c))/\Bd (I (cx-a))/\Bd (I (cy-d))/\Bd (I (cy-b)))/\(I (cx-c)<=I (cx-x)/\I (cx-x)<=I (cx-a))/\I (cy-d)<=I (cy-y)/\I (cy-y)<=I (cy-b):=by
 have p1:=p.la;have p2:=p.lb;have p3:=p.uc;have p4:=p.ud;have p5:=p.ix;have p6:=p.iy;rw[D5 (x:=cx-a) E E,D5 (x:=cy-b) E E,D5 (x:=cx-c) E E,D5 (x:=cy-d) E E,D5 (x:=cx-x) E E,D5 (x:=cy-y) E E];unfold Bd;omega
end
section
variable {H:Nat} {G:bk} {T:Nat} {Q Qd Qf:bk} {k:Nat} {cx cy h dx dy x y a b c d a' b' c' d':Int} (t:uf H G T Q Qd Qf k) (hx:-100000<=cx/\cx<=100000) (hy:-100000<=cy/\cy<=100000) (hd:Hd dx dy) (p:lP x y a b c d) (p':lP x y a' b' c' d')
include t
theorem zO {cx cy dx dy a b c d Qa:Int} (hH:1<=Qa/\Qa<=20000):(0<=pw H (A ao G) T (A al Q) Qd Qf (k:Int) cx cy dx dy a b c d Qa/\pw H (A ao G) T (A al Q) Qd Qf (k:Int) cx cy dx dy a b c d Qa<=1000000000000)/\0<=pE H (A ao G) T (A al Q) Qd Qf (k:Int) cx cy dx dy a b c d Qa/\pE H (A ao G) T (A al Q) Qd Qf (k:Int) cx cy dx dy a b c d Qa<=100000000:=by unfold pw pE;rw[GR];exact⟨(an5 t.lamp t.use (d:=Qa) ⟨hH.1,E⟩ _ _ _ _).1,t.tw _ _ _ _ _⟩
include hx hy hd p p'
theorem wA {Qa:Int} (hH:1<=Qa/\Qa<=20000):pw H (A ao G) T (A al Q) Qd Qf (k:Int) cx cy dx dy a b c d Qa<=pE H (A ao G) T (A al Q) Qd Qf (k:Int) cx cy dx dy a' b' c' d' Qa:=by obtain⟨⟨q1,q2,q3,q4⟩,q5,q6⟩:=hbn hx hy p;obtain⟨⟨r1,r2,r3,r4⟩,r5,r6⟩:=hbn hx hy p';have s:=BM hd q1 q2 q3 q4 q5 q6;have s':=BM hd r1 r2 r3 r4 r5 r6;have e:=apZ (O:=(aE (Qd k))) t.e85 t.use (s.2.2 Qa ⟨hH.1,E⟩);have e':=apZ (O:=(aE (Qd k))) t.e85 t.use (s'.2.2 Qa ⟨hH.1,E⟩);unfold pw pE;rw[GR];exact an0 t.lamp t.use e e' s.1 s.2.1 s'.1 s'.2.1
end
section
variable {cx cy x y a b c d a' b' c' d' h:Int} (hx:-100000<=cx/\cx<=100000) (hy:-100000<=cy/\cy<=100000) (hh:1<=h/\h<=200) (p:lP x y a b c d) (p':lP x y a' b' c' d')
include hx hy hh p
theorem Ns:(10000<=iN cx cy h a b c d/\iN cx cy h a b c d<=(x-cx)*(x-cx)+(y-cy)*(y-cy)+100*h*(100*h))/\(x-cx)*(x-cx)+(y-cy)*(y-cy)+100*h*(100*h)<=iS cx cy h a b c d/\iS cx cy h a b c d<=3999999999999999999:=by have p1:=p.la;have p2:=p.lb;have p3:=p.uc;have p4:=p.ud;have p5:=p.ix;have p6:=p.iy;have s1:=aoS (p:=a-cx) (At:=c-cx) (x:=x-cx) ⟨E,E⟩ ⟨E,E⟩ ⟨E,E⟩;have s2:=aoS (p:=b-cy) (At:=d-cy) (x:=y-cy) ⟨E,E⟩ ⟨E,E⟩ ⟨E,E⟩;have g1:=f10 (p:=a-cx) (At:=c-cx) (x:=x-cx) ⟨E,E⟩ ⟨E,E⟩ ⟨E,E⟩;have g2:=f10 (p:=b-cy) (At:=d-cy) (x:=y-cy) ⟨E,E⟩ ⟨E,E⟩ ⟨E,E⟩;have m:=gC (x:=100*h) (X:=20000) (p:=100*h) (Qe:=20000) ⟨E,E⟩ ⟨E,E⟩;have m1:=j5 (x:=100) (y:=100*h) (p:=100) (r:=100*h) Ej E Ej E;unfold iN iS;rw[D5 (x:=a-cx) E E,D5 (x:=c-cx) E E,D5 (x:=b-cy) E E,D5 (x:=d-cy) E E,D5 (x:=100*h) E E,D5 (x:=100*h*(100*h)) E E];rw[D5 (x:=iA (a-cx) (c-cx)+iA (b-cy) (d-cy)) E E,D5 (x:=iq (a-cx) (c-cx)+iq (b-cy) (d-cy)) E E,D5 E E,D5 E E];omega
include p'
theorem ne4 {tw tv Ro how':Int} (h0:0<=tw) (ht:tw<=tv) (U:tv<=100000000) (r:0<=Ro/\Ro<=2) (hs:Ro=0->how'=2->False):Ly Ro tw (iS cx cy h a b c d) h<=Ky how' tv (iN cx cy h a' b' c' d') h:=by have At:=Ns hx hy hh p;have q':=Ns hx hy hh p';have Qa:I (100*h)=100*h:=D5 E E;have b:=(Pz (Qa:=100*h) (At:=iN cx cy h a' b' c' d') (r:=fG (iN cx cy h a' b' c' d')) (show 0<=tv by omega) (Ep tv) U ⟨E,E⟩ q'.1.1 (Uv (Ep _) E E).1).2.2;unfold Ly Ky;rw[Qa];exact fx2 (am5 h0 ht U ⟨E,E⟩ q'.1.1 E At.2.2) b.1 r hs
omit p' in
theorem abF {tw Ro:Int} (h0:0<=tw) (U:tw<=100000000):(0<=Ly Ro tw (iS cx cy h a b c d) h/\Ly Ro tw (iS cx cy h a b c d) h<=200000000000000)/\0<=Ky Ro tw (iN cx cy h a b c d) h/\Ky Ro tw (iN cx cy h a b c d) h<=200000000000000:=by have At:=Ns hx hy hh p;have Qa:I (100*h)=100*h:=D5 E E;have r:=Uv (Ep (iS cx cy h a b c d)) E At.2.2;have g:=Pz (Qa:=100*h) (At:=iS cx cy h a b c d) (r:=gk (iS cx cy h a b c d)) h0 (Ep tw) U ⟨E,E⟩ E E;have g':=Pz (Qa:=100*h) (At:=iN cx cy h a b c d) (r:=fG (iN cx cy h a b c d)) h0 (Ep tw) U ⟨E,E⟩ At.1.1 (Uv (Ep _) E E).1;unfold Ly Ky;rw[Qa];exact⟨(TU g.2.1).1,(TU g'.2.2).2⟩
end
theorem R78 {H:Nat} {G:bk} {T:Nat} {Q:bk} {O cx cy h ex ey x y a b c d a' b' c' d':Int} (M:ff H G T Q O=0->nm (G O.toNat)/\fV (aU (aM (ap (G O.toNat)))) (du (aM (ap (G O.toNat))))/\fV (aU (aM (ap (ap (G O.toNat))))) (du (aM (ap (ap (G O.toNat)))))/\CK (G O.toNat)<=1000000)
 (hx:-100000<=cx/\cx<=100000) (hy:-100000<=cy/\cy<=100000) (hh:1<=h/\h<=200) (he:Hd ex ey) (p:lP x y a b c d) (p':lP x y a' b' c' d') :
 0<=DN H G T Q O cx cy h a b c d ex ey/\DN H G T Q O cx cy h a b c d ex ey<=EE H G T Q O cx cy h a' b' c' d' ex ey/\EE H G T Q O cx cy h a' b' c' d' ex ey<=1000000:=by
 obtain⟨⟨q1,q2,q3,q4⟩,q5,q6⟩:=aa0 hx hy p;obtain⟨⟨r1,r2,r3,r4⟩,r5,r6⟩:=aa0 hx hy p';have s:=BM he q1 q2 q3 q4 q5 q6;have s':=BM he r1 r2 r3 r4 r5 r6;have Qa:I (100*h)=100*h:=D5 E E;have u:=s.2.2 (100*h) ⟨E,E⟩;have u':=s'.2.2 (100*h) ⟨E,E⟩;have B:=OL he (I (cx-c)) (I (cx-a)) (I (cy-d)) (I (cy-b));have B':=OL he (I (cx-c')) (I (cx-a')) (I (cy-d')) (I (cy-b'));rw[sI]at u u';unfold DN EE Bo AO FV;rw[Qa,u,u'];by_cases e:ff H G T Q O=0
 ·obtain⟨tb,uu,vv,ybd⟩:=M e
  have g:=Gk tb;have At:=abb tb uu vv (d:=100*h) ⟨E,E⟩ B.1 B.2.1 B.2.2.1 B.2.2.2 B'.1 B'.2.1 B'.2.2.1 B'.2.2.2 s.1 s.2.1 s'.1 s'.2.1;have m:=Dv tb uu vv (d:=100*h) ⟨E,E⟩;have m1:=(m (dJ (I (cx-c)) (I (cx-a)) (I (cy-d)) (I (cy-b)) ex ey) (fk (I (cx-c)) (I (cx-a)) (I (cy-d)) (I (cy-b)) ex ey) (dL (I (cx-c)) (I (cx-a)) (I (cy-d)) (I (cy-b)) ex ey) (fe (I (cx-c)) (I (cx-a)) (I (cy-d)) (I (cy-b)) ex ey)).1.1;have m2:=(m (dJ (I (cx-c')) (I (cx-a')) (I (cy-d')) (I (cy-b')) ex ey) (fk (I (cx-c')) (I (cx-a')) (I (cy-d')) (I (cy-b')) ex ey) (dL (I (cx-c')) (I (cx-a')) (I (cy-d')) (I (cy-b')) ex ey) (fe (I (cx-c')) (I (cx-a')) (I (cy-d')) (I (cy-b')) ex ey)).2.1;have o:sD (G O.toNat) (dJ (I (cx-c')) (I (cx-a')) (I (cy-d')) (I (cy-b')) ex ey) (fk (I (cx-c')) (I (cx-a')) (I (cy-d')) (I (cy-b')) ex ey) (dL (I (cx-c')) (I (cx-a')) (I (cy-d')) (I (cy-b')) ex ey) (fe (I (cx-c')) (I (cx-a')) (I (cy-d')) (I (cy-b')) ex ey) (100*h)<=1000000:=yaR uu vv tb.u tb.v ⟨E,E⟩ (X6 tb) E E (λi hi k W=>Fg (g.2.2.2 i hi k W) ybd) ⟨tb.side.1,E⟩ _ _ _ _;rw[e];refine⟨m1,?_,o⟩;show vb _ _ _ _ _ _<=sD _ _ _ _ _ _;rcases At with At|At
  ·exact Fg At m2
  ·exact At
 ·rw[show(ff H G T Q O==0)=false from by simpa using e,cond_false];rw[show(ff H G T Q O==0)=false from by simpa using e];exact⟨Ep 0,Ep 0,by show(0:Int)<=_;decide⟩
theorem yaE {h tw tv r s Ro how':Int} (hh:1<=h/\h<=200) (h0:0<=tw) (ht:tw<=tv) (U:tv<=100000000) (r0:0<=r) (rs:r<=s) (yag:s<=1000000) (rg:0<=Ro/\Ro<=2) (hs:Ro=0->how'=2->False):Kw Ro tw r h<=K8 how' tv s h:=by have m:=gC (x:=100*h) (X:=20000) (p:=100*h) (Qe:=20000) ⟨E,E⟩ ⟨E,E⟩;have m1:=j5 (x:=100) (y:=100*h) (p:=100) (r:=100*h) Ej E Ej E;unfold Kw K8;rw[D5 (x:=100*h) E E,D5 (x:=100*h*(100*h)) E E];have b:=(aaD (At:=100*h*(100*h)) (r:=s) (show 0<=tv by omega) (Ep tv) U E ⟨E,yag⟩).2.2;exact fx2 (alY h0 ht U E r0 rs yag) b.1 rg hs
theorem abW {h tw r Ro:Int} (hh:1<=h/\h<=200) (h0:0<=tw) (U:tw<=100000000) (r0:0<=r/\r<=1000000):(0<=Kw Ro tw r h/\Kw Ro tw r h<=1000000000000000)/\0<=K8 Ro tw r h/\K8 Ro tw r h<=1000000000000000:=by have m:=gC (x:=100*h) (X:=20000) (p:=100*h) (Qe:=20000) ⟨E,E⟩ ⟨E,E⟩;have m1:=j5 (x:=100) (y:=100*h) (p:=100) (r:=100*h) Ej E Ej E;unfold Kw K8;rw[D5 (x:=100*h) E E,D5 (x:=100*h*(100*h)) E E];have b:=aaD (At:=100*h*(100*h)) (r:=r) h0 (Ep tw) U E r0;exact⟨(TU b.2.1).1,(TU b.2.2).2⟩
end
end Go.Dx
namespace Go.Dx
noncomputable section
section
variable {H n1 Mx My r vx vy k X0 Y0 X1 Y1:Int}
def Sh (H n1 Mx My r vx vy k:Int):Prop:=∃Qo R2,0<R2/\H*R2<=Qo/\Qo<=n1*R2/\q2 (R2*k*Mx-Qo*vx) (R2*k*My-Qo*vy)<=(R2*k*r)*(R2*k*r)
def MJ (H n1 Mx My r X0 Y0 X1 Y1:Int):Prop:=∃vx vy k,0<k/\(k*X0<=vx/\vx<=k*X1)/\(k*Y0<=vy/\vy<=k*Y1)/\Sh H n1 Mx My r vx vy k
theorem Sh.scale {l:Int} (hl:0<l):Sh H n1 Mx My r (l*vx) (l*vy) (l*k)↔Sh H n1 Mx My r vx vy k:=by
 have key:∀Qo R2:Int,q2 (R2*(l*k)*Mx-Qo*(l*vx)) (R2*(l*k)*My-Qo*(l*vy))=l*l*q2 (R2*k*Mx-Qo*vx) (R2*k*My-Qo*vy):=λQo R2=>by rw[← jk];congr 1<;>grind
 have key2:∀R2:Int,R2*(l*k)*r*(R2*(l*k)*r)=l*l*(R2*k*r*(R2*k*r)):=λR2=>by grind
 constructor
 ·rintro⟨Qo,R2,M,N,h3,h4⟩;exact⟨Qo,R2,M,N,h3,by rw[key,key2]at h4;exact nY hl h4⟩
 ·rintro⟨Qo,R2,M,N,h3,h4⟩;exact⟨Qo,R2,M,N,h3,by rw[key,key2];exact oo h4 (jo l)⟩
theorem sh0 (h0:H<=0) (M:0<=n1) (W:0<k) (h:q2 Mx My<=r*r):Sh H n1 Mx My r vx vy k:=by
 refine⟨0,1,E,E,E,?_⟩;have e:q2 (1*k*Mx-0*vx) (1*k*My-0*vy)=k*k*q2 Mx My:=by rw[← jk];congr 1<;>grind
 have e2:1*k*r*(1*k*r)=k*k*(r*r):=by grind
 rw[e,e2];exact oo h (jo k)
theorem aei {R2 Qo:Int} (hn:0<=H) (hW:0<R2) (M:H*R2<=Qo) (N:Qo<=n1*R2) (hN:Qo=0) (h:q2 (R2*Mx-Qo*vx) (R2*My-Qo*vy)<=(R2*r)*(R2*r)):H<=0/\0<=n1/\q2 Mx My<=r*r:=by
 subst hN;refine⟨?_,?_,?_⟩
 ·apply Classical.byContradiction;intro hh;have:=H5 (show 0<H by omega) hW;omega
 ·apply Classical.byContradiction;intro hh;have:=H5 (show 0 < -n1 by omega) hW;rw[Io]at this;omega
 ·rw[show R2*Mx-0*vx=R2*Mx by omega,show R2*My-0*vy=R2*My by omega,jk,show R2*r*(R2*r)=R2*R2*(r*r) by grind]at h;exact nY hW h
theorem Sh.cv {ux uy j l:Int} (hn:0<=H) (hr:0<=r) (M:Sh H n1 Mx My r vx vy 1) (N:Sh H n1 Mx My r ux uy 1) (hj:0<=j) (hl:j<=l) (h0:0<l):Sh H n1 Mx My r ((l-j)*vx+j*ux) ((l-j)*vy+j*uy) l:=by
 obtain⟨N1,W1,a1,a2,a3,a4⟩:=M;obtain⟨N2,W2,b1,b2,b3,b4⟩:=N;rw[Jv]at a4 b4;have U7:0<=l-j:=by omega
 have hN1:0<=N1:=Fg (fW hn (G0 a1)) a2;have hN2:0<=N2:=Fg (fW hn (G0 b1)) b2;by_cases z1:N1=0
 ·obtain⟨c1,c2,c3⟩:=aei hn a1 a2 a3 z1 a4;exact sh0 c1 c2 h0 c3
 by_cases z2:N2=0
 ·obtain⟨c1,c2,c3⟩:=aei hn b1 b2 b3 z2 b4;exact sh0 c1 c2 h0 c3
 have p1:0<N1:=by omega
 have p2:0<N2:=by omega
 have u1:0<=(l-j)*N2:=fW U7 hN2;have u2:0<=j*N1:=fW hj hN1;have hWp:0<(l-j)*N2*W1+j*N1*W2:=by
  by_cases e:j=0
  ·subst e;have:=H5 (H5 (show 0<l-0 by omega) p2) a1;have:=fW (fW (show(0:Int)<=0 by omega) hN1) (G0 b1);omega
  ·have:=H5 (H5 (show 0<j by omega) p1) b1;have:=fW u1 (G0 a1);omega
 refine⟨l*N1*N2,(l-j)*N2*W1+j*N1*W2,hWp,?_,?_,?_⟩
 ·have k1:=oo a2 u1
  have k2:=oo b2 u2;have e1:H*((l-j)*N2*W1+j*N1*W2)=(l-j)*N2*(H*W1)+j*N1*(H*W2):=by grind
  have e2:l*N1*N2=(l-j)*N2*N1+j*N1*N2:=by grind
  omega
 ·have k1:=oo a3 u1
  have k2:=oo b3 u2;have e1:n1*((l-j)*N2*W1+j*N1*W2)=(l-j)*N2*(n1*W1)+j*N1*(n1*W2):=by grind
  have e2:l*N1*N2=(l-j)*N2*N1+j*N1*N2:=by grind
  omega
 ·have f1:q2 ((l-j)*N2*(W1*Mx-N1*vx)) ((l-j)*N2*(W1*My-N1*vy))<=((l-j)*N2*(W1*r))*((l-j)*N2*(W1*r)):=by
   rw[jk,show((l-j)*N2*(W1*r))*((l-j)*N2*(W1*r))=(l-j)*N2*((l-j)*N2)*(W1*r*(W1*r)) by grind];exact oo a4 (jo _)
  have Q:q2 (j*N1*(W2*Mx-N2*ux)) (j*N1*(W2*My-N2*uy))<=(j*N1*(W2*r))*(j*N1*(W2*r)):=by rw[jk,show(j*N1*(W2*r))*(j*N1*(W2*r))=j*N1*(j*N1)*(W2*r*(W2*r)) by grind];exact oo b4 (jo _)
  have f3:=ans (fW u1 (fW (G0 a1) hr)) (fW u2 (fW (G0 b1) hr)) f1 Q;have f4:=oo f3 (jo l);rw[← jk]at f4;have e1:∀RO v u:Int,((l-j)*N2*W1+j*N1*W2)*l*RO-l*N1*N2*((l-j)*v+j*u)=l*((l-j)*N2*(W1*RO-N1*v)+j*N1*(W2*RO-N2*u)):=λRO v u=>by grind
  rw[e1,e1];have e2:((l-j)*N2*W1+j*N1*W2)*l*r*(((l-j)*N2*W1+j*N1*W2)*l*r)=l*l*(((l-j)*N2*(W1*r)+j*N1*(W2*r))*((l-j)*N2*(W1*r)+j*N1*(W2*r))):=by grind
  rw[e2];exact f4
theorem Sh.row {a b x y:Int} (hn:0<=H) (hr:0<=r) (M:Sh H n1 Mx My r a y 1) (N:Sh H n1 Mx My r b y 1) (ha:a<=x) (hb:x<=b):Sh H n1 Mx My r x y 1:=by
 by_cases e:a=b
 ·rw[show x=a by omega];exact M
 ·have h:=Sh.cv (j:=x-a) (l:=b-a) hn hr M N E E E;rw[show(b-a-(x-a))*a+(x-a)*b=(b-a)*x by grind,show(b-a-(x-a))*y+(x-a)*y=(b-a)*y by grind]at h;have e1:=Sh.scale (H:=H) (n1:=n1) (Mx:=Mx) (My:=My) (r:=r) (vx:=x) (vy:=y) (k:=1) (l:=b-a) E;rw[Jv]at e1;exact e1.1 h
theorem Sh.col {a b x y:Int} (hn:0<=H) (hr:0<=r) (M:Sh H n1 Mx My r x a 1) (N:Sh H n1 Mx My r x b 1) (ha:a<=y) (hb:y<=b):Sh H n1 Mx My r x y 1:=by
 by_cases e:a=b
 ·rw[show y=a by omega];exact M
 ·have h:=Sh.cv (j:=y-a) (l:=b-a) hn hr M N E E E;rw[show(b-a-(y-a))*a+(y-a)*b=(b-a)*y by grind,show(b-a-(y-a))*x+(y-a)*x=(b-a)*x by grind]at h;have e1:=Sh.scale (H:=H) (n1:=n1) (Mx:=Mx) (My:=My) (r:=r) (vx:=x) (vy:=y) (k:=1) (l:=b-a) E;rw[Jv]at e1;exact e1.1 h
theorem Sh.all {x y:Int} (hn:0<=H) (hr:0<=r) (M:Sh H n1 Mx My r X0 Y0 1) (N:Sh H n1 Mx My r X1 Y0 1) (h3:Sh H n1 Mx My r X1 Y1 1) (h4:Sh H n1 Mx My r X0 Y1 1) (a1:X0<=x) (a2:x<=X1) (b1:Y0<=y) (b2:y<=Y1):Sh H n1 Mx My r x y 1 :=
 Sh.col hn hr (Sh.row hn hr M N a1 a2) (Sh.row hn hr h4 h3 a1 a2) b1 b2
theorem MJ.of {x y:Int} (h:Sh H n1 Mx My r x y 1) (a1:X0<=x) (a2:x<=X1) (b1:Y0<=y) (b2:y<=Y1):MJ H n1 Mx My r X0 Y0 X1 Y1:=⟨x,y,1,E,E,E,h⟩
end
def atP (h lx ly n cx cy:Int):P2:=(h*lx+n*(cx-lx),h*ly+n*(cy-ly))
section
variable {h lx ly H n1 mx my r X0 Y0 X1 Y1:Int}
def QX (h lx ly H n1 X0 Y0 X1 Y1:Int) (At:P2):Prop:=∃n cx cy,(n=H∨n=n1)/\(cx=X0∨cx=X1)/\(cy=Y0∨cy=Y1)/\At=atP h lx ly n cx cy
theorem aeX (hn:0<=H) (ht:MJ H n1 (mx-h*lx) (my-h*ly) r (X0-lx) (Y0-ly) (X1-lx) (Y1-ly)):Kg (QX h lx ly H n1 X0 Y0 X1 Y1) mx my r:=by
 obtain⟨vx,vy,k,W,⟨R,S⟩,⟨y0,y1⟩,Qo,R2,hW,g1,g2,g3⟩:=ht;have hN:0<=Qo:=Fg (fW hn (G0 hW)) g1;have iz11:0<=k:=G0 W;refine⟨R2*k*(h*lx)+Qo*vx,R2*k*(h*ly)+Qo*vy,R2*k,H5 hW W,λR0 B C hD=>?_,?_⟩
 ·have yac:∀ R0 v Z0 Z1:Int,k*Z0<=v->v<=k*Z1->∃ Ue,(Ue=Z0∨Ue=Z1)/\k*(R0*Ue)<=R0*v:=λR0 v Z0 Z1 h0 M=>by
   rcases I9 0 R0 with hA|hA
   ·refine⟨Z0,.inl rfl,?_⟩
    have:=oo h0 hA;have e:R0*(k*Z0)=k*(R0*Z0):=by grind
    omega
   ·refine⟨Z1,.inr rfl,?_⟩
    have:=oo M (show 0<=-R0 by omega);rw[Io,Io]at this;have e:R0*(k*Z1)=k*(R0*Z1):=by grind
    omega
  obtain⟨Zx,nzb20,nza18⟩:=yac R0 vx _ _ R S;obtain⟨Zy,nzb24,nza19⟩:=yac B vy _ _ y0 y1;have d0:=hD _ ⟨H,Zx+lx,Zy+ly,.inl rfl,E,E,rfl⟩;have d1:=hD _ ⟨n1,Zx+lx,Zy+ly,.inr rfl,E,E,rfl⟩;unfold atP at d0 d1;simp only[Int.add_sub_cancel]at d0 d1;have k1:=oo (show k*(R0*Zx+B*Zy)<=R0*vx+B*vy by rw[Int.mul_add];omega) hN;have e1:R0*(R2*k*(h*lx)+Qo*vx)+B*(R2*k*(h*ly)+Qo*vy)+C*(R2*k)=k*(R2*(R0*(h*lx)+B*(h*ly)+C))+Qo*(R0*vx+B*vy):=by grind
  have e2:Qo*(k*(R0*Zx+B*Zy))=k*(Qo*(R0*Zx+B*Zy)):=by grind
  have e3:R0*(h*lx+H*Zx)+B*(h*ly+H*Zy)+C=(R0*(h*lx)+B*(h*ly)+C)+H*(R0*Zx+B*Zy):=by grind
  have e4:R0*(h*lx+n1*Zx)+B*(h*ly+n1*Zy)+C=(R0*(h*lx)+B*(h*ly)+C)+n1*(R0*Zx+B*Zy):=by grind
  rw[e3]at d0;rw[e4]at d1;generalize R0*(h*lx)+B*(h*ly)+C=Ue at *
  generalize R0*Zx+B*Zy=SK at *
  have key:0<=R2*Ue+Qo*SK:=by
   rcases I9 0 SK with yaW|yaW
   ·have:=Fq g1 yaW
    have:=fW (G0 hW) d0;have e:R2*(Ue+H*SK)=R2*Ue+H*R2*SK:=by grind
    omega
   ·have:=Fq g2 (show 0<=-SK by omega)
    rw[JH,JH]at this;have:=fW (G0 hW) d1;have e:R2*(Ue+n1*SK)=R2*Ue+n1*R2*SK:=by grind
    omega
  have:=fW iz11 key;rw[Int.mul_add]at this;omega
 ·have e:∀ RO l v:Int,R2*k*RO-(R2*k*(h*l)+Qo*v)=R2*k*(RO-h*l)-Qo*v:=λRO l v=>by grind
  rw[e,e];exact g3
theorem aih (M:H<=n1) (hr:0<=r) {px py:Int}:nr (h*lx+H*(px-lx)) (h*ly+H*(py-ly)) (h*lx+n1*(px-lx)) (h*ly+n1*(py-ly)) mx my r=true↔Sh H n1 (mx-h*lx) (my-h*ly) r (px-lx) (py-ly) 1:=by
 rw[fc9 hr];have e:∀n m RO l p:Int,m*RO-1*((m-n)*(h*l+H*(p-l))+n*(h*l+n1*(p-l)))=m*1*(RO-h*l)-((m-n)*H+n*n1)*(p-l):=λn m RO l p=>by grind
 constructor
 ·rintro⟨n,m,k1,k2,k3,k4⟩
  rw[e,e]at k4;have:=oo M (show 0<=m-n by omega);have:=oo M k1;have e1:H*m=(m-n)*H+n*H:=by grind
  have e2:n1*m=(m-n)*n1+n*n1:=by grind
  exact⟨_,m,k3,E,E,k4⟩
 ·rintro ⟨Qo,R2,k1,k2,k3,k4⟩
  by_cases e0:H=n1
  ·subst e0
   refine⟨0,R2,Ep 0,G0 k1,k1,?_⟩;rw[e,e];have:Qo=(R2-0)*H+0*H:=by rw[Int.sub_zero,Int.zero_mul,JK,Int.mul_comm];omega
   rw[← this];exact k4
  ·have hd:0<n1-H:=by omega
   refine⟨Qo-H*R2,R2*(n1-H),E,?_,H5 k1 hd,?_⟩
   ·have:R2*(n1-H)=n1*R2-H*R2:=by grind
    omega
   ·rw[e,e]
    have e3:(R2*(n1-H)-(Qo-H*R2))*H+(Qo-H*R2)*n1=(n1-H)*Qo:=by grind
    rw[e3];have e4:∀RO v:Int,R2*(n1-H)*1*RO-(n1-H)*Qo*v=(n1-H)*(R2*1*RO-Qo*v):=λRO v=>by grind
    rw[e4,e4,jk,show R2*(n1-H)*1*r*(R2*(n1-H)*1*r)=(n1-H)*(n1-H)*(R2*1*r*(R2*1*r)) by grind];exact oo k4 (jo _)
end
end
end Go.Dx
namespace Go.Dx
open Go.IntKind (i64 u64 u8)
open Go.Sx
noncomputable section
theorem ahD {RG:List P2} {AT:P2->Prop} {m:P2} {r:Int} (hL:∀ At,At∈RG↔AT At) (h0:RG≠[]) (hr:0<=r) (h:Kg AT m.1 m.2 r):JL RG m r=true:=by
 have k:=Classical.choose_spec (yA RG);unfold JL;refine QG (al2 k.1 (λhn=>?_) hr ?_)
 ·obtain⟨a,ha⟩:=List.exists_mem_of_ne_nil _ h0;have:=(k.2 a).1 ha;rw[hn]at this;cases this
 ·have e:(λAt=>At∈Classical.choose (yA RG))=AT:=funext λAt=>propext ((k.2 At).symm.trans (hL At));rw[e];exact h
section
variable {X R6 h tx ty RJ lo hi x9 Ql Qn Qp px py:Int}
def Kc (X R6 h tx ty RJ lo hi px py:Int):Prop:=lo<=h/\Sh (max 0 (h-hi)) (h-lo) (h*tx-h*X) (h*ty-h*R6) (h*RJ) (px-X) (py-R6) 1
theorem TC.has_v (t:TC X R6 h tx ty RJ lo hi) (hx:-100000<=px/\px<=100000) (hy:-100000<=py/\py<=100000):vl X R6 h (mz h hi) (ma h lo) (mr h tx) (lZ h ty) (lU h RJ) (jT h lo) px py=true↔Kc X R6 h tx ty RJ lo hi px py:=by
 obtain⟨e1,e1',e2,e2',e3,e3',e4,e4',e5,e5',s1,s2,s3,s4⟩:=t.vals;have:=t.h';have:=t.lo';unfold vl Kc;cases hb:jT h lo with
 |true=>
   unfold jT at hb;have hb:=Fv hb;simp only[IA,cond_false];constructor
   ·intro h;cases h
   ·intro h;omega
 |false=>rw[IY,cond_true,e1,e2,e3,e4,e5];unfold jT at hb;have hb:=H3 hb;have p0:=Tq t.X' (h:=h) (n:=max 0 (h-hi)) E E hx;have p1:=Tq t.Y' (h:=h) (n:=max 0 (h-hi)) E E hy;have q0:=Tq t.X' (h:=h) (n:=h-lo) E E hx;have q1:=Tq t.Y' (h:=h) (n:=h-lo) E E hy;rw[p0.1,p1.2.1,q0.1,q1.2.1,aoP p0.2.2 p1.2.2 q0.2.2 q1.2.2 s1 s2 s3 s4,aih E s3];exact⟨λh=>⟨E,h⟩,λh=>h.2⟩
theorem TC.tou_of (t:TC X R6 h tx ty RJ lo hi) (h9:-100000<=x9/\x9<=100000) (Vt:-100000<=Ql/\Ql<=100000) (Vu:-100000<=Qn/\Qn<=100000) (V7:-100000<=Qp/\Qp<=100000) (hx:x9<=px/\px<=Qn) (hy:Ql<=py/\py<=Qp) (hs:Kc X R6 h tx ty RJ lo hi px py) :
 OR X R6 h (mz h hi) (ma h lo) (mr h tx) (lZ h ty) (lU h RJ) (jT h lo) x9 Ql Qn Qp=true:=by
 obtain⟨e1,e1',e2,e2',e3,e3',e4,e4',e5,e5',s1,s2,s3,s4⟩:=t.vals;have:=t.h';have:=t.lo';unfold Kc at hs;unfold OR;cases hb:jT h lo with
 |true=>unfold jT at hb;have hb:=Fv hb;omega
 |false=>
   rw[IY,Bool.true_and,e1,e2,e3,e4,e5];have hL:∀ At,At∈IM X R6 h (max 0 (h-hi)) (h-lo) x9 Ql Qn Qp↔QX h X R6 (max 0 (h-hi)) (h-lo) x9 Ql Qn Qp At:=by
    have u:∀{c},-100000<=c/\c<=100000->b9 X h c (max 0 (h-hi))=h*X+max 0 (h-hi)*(c-X)/\b9 X h c (h-lo)=h*X+(h-lo)*(c-X):=λhc=>⟨(Tq t.X' (h:=h) (n:=max 0 (h-hi)) E E hc).1,(Tq t.X' (h:=h) (n:=h-lo) E E hc).1⟩;have v:∀{c},-100000<=c/\c<=100000->ci R6 h c (max 0 (h-hi))=h*R6+max 0 (h-hi)*(c-R6)/\ci R6 h c (h-lo)=h*R6+(h-lo)*(c-R6):=λhc=>⟨(Tq t.Y' (h:=h) (n:=max 0 (h-hi)) E E hc).2.1,(Tq t.Y' (h:=h) (n:=h-lo) E E hc).2.1⟩;intro At;unfold IM;rw[(u h9).1,(u h9).2,(u Vu).1,(u Vu).2,(v Vt).1,(v Vt).2,(v V7).1,(v V7).2];simp only[HD,IP,or_false];constructor
    ·rintro (e|e|e|e|e|e|e|e)
     ·exact⟨_,_,_,.inl rfl,.inl rfl,.inl rfl,e⟩
     ·exact⟨_,_,_,.inr rfl,.inl rfl,.inl rfl,e⟩
     ·exact⟨_,_,_,.inl rfl,.inr rfl,.inl rfl,e⟩
     ·exact⟨_,_,_,.inr rfl,.inr rfl,.inl rfl,e⟩
     ·exact⟨_,_,_,.inl rfl,.inr rfl,.inr rfl,e⟩
     ·exact⟨_,_,_,.inr rfl,.inr rfl,.inr rfl,e⟩
     ·exact⟨_,_,_,.inl rfl,.inl rfl,.inr rfl,e⟩
     ·exact⟨_,_,_,.inr rfl,.inl rfl,.inr rfl,e⟩
    ·rintro⟨n,cx,cy,rfl|rfl,rfl|rfl,rfl|rfl,e⟩
     ·exact .inl e
     ·exact .inr (.inr (.inr (.inr (.inr (.inr (.inl e))))))
     ·exact .inr (.inr (.inl e))
     ·exact .inr (.inr (.inr (.inr (.inl e))))
     ·exact .inr (.inl e)
     ·exact .inr (.inr (.inr (.inr (.inr (.inr (.inr e))))))
     ·exact .inr (.inr (.inr (.inl e)))
     ·exact .inr (.inr (.inr (.inr (.inr (.inl e)))))
   exact ahD (m:=(h*tx,h*ty)) hL (by simp[IM]) s3 (aeX E (MJ.of hs.2 E E E E))
end
section
variable {H:Nat} {G:bk} {T:Nat} {Q:bk} {n4:Nat} {f4:bk} {n6:Nat} {f6:bk} {x8:Int}
def PP (Q f6:bk) (x8:Int) (i:Nat) (x y:Int):Prop:=Kc (bM (f6 x8.toNat)) (d9 (f6 x8.toNat)) (cH (f6 x8.toNat)) (aE (Q i)) (bM (Q i)) (d9 (Q i)) (cH (Q i)) (eV (Q i)) x y
theorem hsn (d t:Nat->Bool):∀n,0<=ij d t n/\ij d t n<=2:=λn=>by rw[rl];unfold AY;cases jl n d<;>cases jl n t<;>exact⟨by show(0:Int)<=_;decide,by show _<=(2:Int);decide⟩
theorem crT (a b c d:Int):0<=fp H G T Q n4 f4 n6 f6 x8 a b c d/\fp H G T Q n4 f4 n6 f6 x8 a b c d<=2:=by
 have k:=hsn (Bp H G T Q n4 f4 n6 f6 x8 a b c d) (CR H G T Q n4 f4 n6 f6 x8 a b c d) T;unfold fp;generalize ij (Bp H G T Q n4 f4 n6 f6 x8 a b c d) (CR H G T Q n4 f4 n6 f6 x8 a b c d) T=z at *
 generalize (Lz _ _ _ _ _ _ _ _ _ _ !=0)=u;cases u<;>cases ve a b c d<;>first|exact k|exact⟨Ep 0,by show(0:Int)<=2;decide⟩
theorem obs {a b c d a' b' c' d' x y:Int} (he:H1 (m5 H (A aN G) T (A aX Q) n4 (A aY f4) n6 (A aG f6)) x8 n6=0) (hp:tg a b c d=true) (TF:tg a' b' c' d'=true) (hx:a<=x/\x<=c) (hy:b<=y/\y<=d) (TI:a'<=x/\x<=c') (vh:b'<=y/\y<=d')
 (h:fp H G T Q n4 f4 n6 f6 x8 a b c d=0) (h':fp H G T Q n4 f4 n6 f6 x8 a' b' c' d'=2):False:=by
 have hc:=ale (H:=H) (G:=G) (T:=T) (Q:=Q) (n4:=n4) (f4:=f4) (n6:=n6) (f6:=f6) (i:=x8) (m:=n6) (λh=>by have:=(J4 h).l6;omega);unfold fp at h h';rw[hc,he,xG,hp]at h;rw[hc,he,xG,TF]at h';have h:ij (Bp H G T Q n4 f4 n6 f6 x8 a b c d) (CR H G T Q n4 f4 n6 f6 x8 a b c d) T=0:=h;have h':ij (Bp H G T Q n4 f4 n6 f6 x8 a' b' c' d') (CR H G T Q n4 f4 n6 f6 x8 a' b' c' d') T=2:=h';rw[rl]at h h';unfold AY at h h';have At:=w9 hp;have q':=w9 TF;cases hD:jl T (Bp H G T Q n4 f4 n6 f6 x8 a' b' c' d') with
 |false=>rw[hD]at h';cases hT:jl T (CR H G T Q n4 f4 n6 f6 x8 a' b' c' d')<;>rw[hT]at h'<;>cases h'
 |true=>
   obtain⟨i,hi,hd⟩:=wi.1 hD;have t:=(aat he).2 i hi;have sh:∀{u v:Int},-100000<=u/\u<=100000->-100000<=v/\v<=100000->vl (bM (f6 x8.toNat)) (d9 (f6 x8.toNat)) (cH (f6 x8.toNat)) (mz (cH (f6 x8.toNat)) (eV (Q i))) (ma (cH (f6 x8.toNat)) (cH (Q i))) (mr (cH (f6 x8.toNat)) (aE (Q i))) (lZ (cH (f6 x8.toNat)) (bM (Q i))) (lU (cH (f6 x8.toNat)) (d9 (Q i))) (jT (cH (f6 x8.toNat)) (cH (Q i))) u v=true->PP Q f6 x8 i u v:=λM N h3=>(t.has_v M N).1 h3;unfold Bp C6 Ln at hd;rw[mb]at hd;have hd:=(Eq.to_iff (congrArg (·=true) apn)).1 hd;simp only[Eg]at hd;have s1:=sh q'.1 q'.2.1 hd.1;have s2:=sh q'.2.2.1 q'.2.1 hd.2.1;have s3:=sh q'.2.2.1 q'.2.2.2.1 hd.2.2.1;have s4:=sh q'.1 q'.2.2.2.1 hd.2.2.2;have sp:PP Q f6 x8 i x y:=by obtain⟨_,_,_,_,_,_,_,_,_,_,_,_,z3,_⟩:=t.vals;unfold PP Kc at s1 s2 s3 s4 ⊢;exact⟨s1.1,Sh.all E z3 s1.2 s2.2 s3.2 s4.2 E E E E⟩
   have ht:CR H G T Q n4 f4 n6 f6 x8 a b c d i=true:=t.tou_of At.1 At.2.1 At.2.2.1 At.2.2.2.1 hx hy sp;rw[eF i hi ht]at h;cases hE:jl T (Bp H G T Q n4 f4 n6 f6 x8 a b c d)<;>rw[hE]at h<;>cases h
end
end
end Go.Dx
namespace Go.Dx
open Go.IntKind (i64 u64 u8)
open Go.Sx Go.Proofs
variable (H:Nat) (G:bk) (T:Nat) (Q:bk) (O:Int) (n5:Nat) (f5:bk) (n7:Nat) (f7:bk) (n9:Nat) (f9:bk) (q:Nat) (Y:bk) (Qm:Nat) (Qd:bk) (Qu:Nat) (Qf:bk) (QY Qv Qi Qk Qr Qt RA R5:Int)
noncomputable section
section
variable {H:Nat} {G:bk} {T:Nat} {Q Qd Qf:bk} {k:Nat} {cx cy h dx dy a c d e lo hi px py up:Int} (t:uf H G T Q Qd Qf k)
include t
end
theorem AR {p:Nat->Bool} {v:Nat->Int} {n:Nat} {B:Int} (U:∀ k,k<n->p k=true->0<=v k/\v k<=B) (hn:n<=1000) (hB:B<=4000000000000000) :
 ∀m,m<=n->0<=lQ p v m/\lQ p v m<=4000000000000000*m/\∀k,k<m->p k=true->v k<=lQ p v m
 |0,_=>⟨Ep 0,Ep 0,λk h=>absurd h (IG k)⟩
 |m+1,hm=>by
   obtain⟨h0,M,N⟩:=AR (p:=p) U hn hB m E;have VS:=U m E;have e:lQ p v (m+1)=bif p m then I (lQ p v m+v m) else lQ p v m:=rfl
   rw[e];cases hp:p m with
   |true=>
     have VS:=VS hp;rw[cond_true,D5 E E];refine⟨E,E,λk W UU=>?_⟩;rcases Nat.lt_succ_iff_lt_or_eq.1 W with h|rfl
     ·have:=N k h UU;omega
     ·omega
   |false=>
     rw[cond_false];refine⟨h0,E,λk W UU=>?_⟩;rcases Nat.lt_succ_iff_lt_or_eq.1 W with h|rfl
     ·exact N k h UU
     ·rw[hp]at UU;cases UU
theorem E9 {p:Nat->Bool} {v u:Nat->Int} {n:Nat} {B:Int} (U:∀ k,k<n->p k=true->0<=v k/\v k<=B) (hu:∀ k,k<n->p k=true->0<=u k/\u k<=B) (h:∀ k,k<n->p k=true->v k<=u k) (hn:n<=1000) (hB:B<=4000000000000000) :
 ∀m,m<=n->lQ p v m<=lQ p u m
 |0,_=>Ep 0
 |m+1,hm=>by
   have ih:=E9 U hu h hn hB m E;have a:=AR (p:=p) U hn hB m E;have b:=AR (p:=p) hu hn hB m E;show(bif p m then I (lQ p v m+v m) else lQ p v m)<=(bif p m then I (lQ p u m+u m) else lQ p u m);cases hp:p m with
   |true=>have VS:=U m E hp;have UX:=hu m E hp;have At:=h m E hp;rw[cond_true,cond_true,D5 E E,D5 E E];omega
   |false=>exact ih
theorem arS {e i m:Int} (he:e=0) (h0:0<=i) (M:i<m):H1 e i m=0:=by subst he;unfold H1 Ru;rw[eZ (show ¬i<0 by omega),eZ (show ¬m<=i by omega)];rfl
theorem ak0 {H:Nat} {G:bk} {T:Nat} {Q:bk} {O:Int} {n5:Nat} {f5:bk} {n7:Nat} {f7:bk} {n9:Nat} {f9:bk} {q:Nat} {Y:bk} {Qm:Nat} {Qd:bk} {Qu:Nat} {Qf:bk} (h:ej H G T Q O n5 f5 n7 f7 n9 f9 q Y Qm Qd Qu Qf=0):m5 n5 f5 n7 f7 n9 f9 q Y=0:=by have h:(NV H G T Q O n5 f5 n7 f7 n9 f9 q Y Qm Qd Qu Qf).2.2=0:=h;unfold NV at h;exact(Kp (Kp h).2).1
theorem akG {a b c d:Int} (h:HN a b c d=true):(-100000<=a/\a<=100000)/\(-100000<=b/\b<=100000)/\(-100000<=c/\c<=100000)/\(-100000<=d/\d<=100000)/\a<=c/\b<=d:=by rw[Nw]at h;simp only[Eg,GV]at h;obtain⟨M,N,h3,h4,h5,h6⟩:=h;exact⟨qt M,qt h3,qt N,qt h4,h5,h6⟩
theorem TO {v a b:Int} (h:a<=v/\v<=b):cM v a b=true:=Km h
theorem alm {a b c d:Int} (ha:-100000<=a/\a<=100000) (hb:-100000<=b/\b<=100000) (hc:-100000<=c/\c<=100000) (hd:-100000<=d/\d<=100000) (M:a<=c) (N:b<=d):HN a b c d=true:=by rw[Nw,TO ha,TO hb,TO hc,TO hd,BH M,BH N];rfl
theorem ww {a l h:Int} (M:l<=a) (N:a<=h):gR a l h=true:=by unfold gR;simp[M,N]
theorem hv' {a b c d:Int} (ha:-100000<=a/\a<=100000) (hb:-100000<=b/\b<=100000) (hc:-100000<=c/\c<=100000) (hd:-100000<=d/\d<=100000) (M:a<=c) (N:b<=d):tg a b c d=true:=by
 have hp:Lh 4 (A L (cq [D a,D b,D c,D d] 0 1))=true:=by
  unfold Lh;refine gN λi hi=>?_
  match i,hi with
  |0,_=>exact ww ha.1 ha.2|1,_=>exact ww hb.1 hb.2|2,_=>exact ww hc.1 hc.2|3,_=>exact ww hd.1 hd.2
 unfold tg;rw[hp,BH M,BH N];rfl
theorem lP.ok {x y a b c d:Int} (p:lP x y a b c d):tg a b c d=true:=by have p1:=p.la;have p2:=p.lb;have p3:=p.uc;have p4:=p.ud;have p5:=p.ix;have p6:=p.iy;exact hv' ⟨E,E⟩ ⟨E,E⟩ ⟨E,E⟩ ⟨E,E⟩ E E
section
variable {H:Nat} {G:bk} {T:Nat} {Q:bk} {O:Int} {n5:Nat} {f5:bk} {n7:Nat} {f7:bk} {n9:Nat} {f9:bk} {q:Nat} {Y:bk} {Qm:Nat} {Qd:bk} {Qu:Nat} {Qf:bk} {x y a b c d a' b' c' d' ex ey:Int} (hz:ej H (A ao G) T (A al Q) O n5 (A aN f5) n7 (A aX f7) n9 (A aY f9) q (A aG Y) Qm (A L Qd) Qu (A CE Qf)=0)
include hz
theorem Ny:Qm=q/\q<=1000:=by have SK:=C7 hz;have:=SK.v3.l6;exact⟨SK.ll,E⟩
theorem DD {k:Nat} (W:k<q) (p:lP x y a b c d) (p':lP x y a' b' c' d'):fp n5 (A aN f5) n7 (A aX f7) n9 (A aY f9) q (A aG Y) (k:Int) a b c d=0->fp n5 (A aN f5) n7 (A aX f7) n9 (A aY f9) q (A aG Y) (k:Int) a' b' c' d'=2->False:=by have e:=ak0 hz;refine obs (x:=x) (y:=y) ?_ p.ok p'.ok p.ix p.iy p'.ix p'.iy;rw[db,db,db,db];exact arS e E E
theorem BJ {k:Nat} (W:k<Qm) (ho:LE (A L Qd) k=true):uf H G T Q (A L Qd) (A CE Qf) k/\Vn (A aG Y k):=by have SK:=C7 hz;have e:=(Ny hz).1;exact⟨aeg (asA hz) SK (k:=k) E ho,SK.cl k E⟩
theorem hb2 (p:lP x y a b c d):∀k,k<Qm->LE (A L Qd) k=true->(0<=pg H (A ao G) T (A al Q) n5 (A aN f5) n7 (A aX f7) n9 (A aY f9) q (A aG Y) (A L Qd) (A CE Qf) (k:Int) (bM (A aG Y k)) (d9 (A aG Y k)) (cH (A aG Y k)) (eV (A aG Y k)) (ck (A aG Y k)) a b c d/\pg H (A ao G) T (A al Q) n5 (A aN f5) n7 (A aX f7) n9 (A aY f9) q (A aG Y) (A L Qd) (A CE Qf) (k:Int) (bM (A aG Y k)) (d9 (A aG Y k)) (cH (A aG Y k)) (eV (A aG Y k)) (ck (A aG Y k)) a b c d<=200000000000000)/\0<=o8 H (A ao G) T (A al Q) n5 (A aN f5) n7 (A aX f7) n9 (A aY f9) q (A aG Y) (A L Qd) (A CE Qf) (k:Int) (bM (A aG Y k)) (d9 (A aG Y k)) (cH (A aG Y k)) (eV (A aG Y k)) (ck (A aG Y k)) a b c d/\o8 H (A ao G) T (A al Q) n5 (A aN f5) n7 (A aX f7) n9 (A aY f9) q (A aG Y) (A L Qd) (A CE Qf) (k:Int) (bM (A aG Y k)) (d9 (A aG Y k)) (cH (A aG Y k)) (eV (A aG Y k)) (ck (A aG Y k)) a b c d<=200000000000000:=λk W ho=>by obtain⟨t,cl⟩:=BJ hz W ho;have h:=cl.ph;have Qa:I (100*(cH (A aG Y k)))=100*(cH (A aG Y k)):=D5 E E;have b0:=zO t (cx:=(bM (A aG Y k))) (cy:=(d9 (A aG Y k))) (dx:=(eV (A aG Y k))) (dy:=(ck (A aG Y k))) (a:=a) (b:=b) (c:=c) (d:=d) (Qa:=I (100*(cH (A aG Y k)))) ⟨by rw[Qa];omega,by rw[Qa];omega⟩;have m:=wA t cl.px cl.py cl.hd p p (Qa:=I (100*(cH (A aG Y k)))) ⟨by rw[Qa];omega,by rw[Qa];omega⟩;unfold pg o8;exact⟨(abF cl.px cl.py cl.ph p b0.1.1 E).1,(abF cl.px cl.py cl.ph p b0.2.1 b0.2.2).2⟩
theorem kK (p:lP x y a b c d) (p':lP x y a' b' c' d'):0<=dY H (A ao G) T (A al Q) n5 (A aN f5) n7 (A aX f7) n9 (A aY f9) q (A aG Y) (A L Qd) (A CE Qf) a b c d Qm/\dY H (A ao G) T (A al Q) n5 (A aN f5) n7 (A aX f7) n9 (A aY f9) q (A aG Y) (A L Qd) (A CE Qf) a b c d Qm<=eR H (A ao G) T (A al Q) n5 (A aN f5) n7 (A aX f7) n9 (A aY f9) q (A aG Y) (A L Qd) (A CE Qf) a' b' c' d' Qm:=by have n:=Ny hz;have gb:=hb2 hz p;have gb':=hb2 hz p';refine⟨(AR (B:=200000000000000) (λk W ho=>(gb k W ho).1) E Ej Qm (Em _)).1,E9 (B:=200000000000000) (λk W ho=>(gb k W ho).1) (λk W ho=>(gb' k W ho).2) (λk W ho=>?_) E Ej Qm (Em _)⟩;obtain⟨t,cl⟩:=BJ hz W ho;have h:=cl.ph;have Qa:I (100*(cH (A aG Y k)))=100*(cH (A aG Y k)):=D5 E E;have b0:=zO t (cx:=(bM (A aG Y k))) (cy:=(d9 (A aG Y k))) (dx:=(eV (A aG Y k))) (dy:=(ck (A aG Y k))) (a:=a) (b:=b) (c:=c) (d:=d) (Qa:=I (100*(cH (A aG Y k)))) ⟨by rw[Qa];omega,by rw[Qa];omega⟩;have b1:=zO t (cx:=(bM (A aG Y k))) (cy:=(d9 (A aG Y k))) (dx:=(eV (A aG Y k))) (dy:=(ck (A aG Y k))) (a:=a') (b:=b') (c:=c') (d:=d') (Qa:=I (100*(cH (A aG Y k)))) ⟨by rw[Qa];omega,by rw[Qa];omega⟩;have m:=wA t cl.px cl.py cl.hd p p' (Qa:=I (100*(cH (A aG Y k)))) ⟨by rw[Qa];omega,by rw[Qa];omega⟩;unfold pg o8;exact ne4 cl.px cl.py cl.ph p p' b0.1.1 m b1.2.2 (crT _ _ _ _) (DD hz (k:=k) E p p')
theorem abk:ff H (A ao G) T (A al Q) O=0->nm (A ao G O.toNat)/\fV (aU (aM (ap (A ao G O.toNat)))) (du (aM (ap (A ao G O.toNat))))/\fV (aU (aM (ap (ap (A ao G O.toNat))))) (du (aM (ap (ap (A ao G O.toNat)))))/\CK (A ao G O.toNat)<=1000000:=λh=>by
 have SK:=C7 hz;have l0:=SK.v2.l0;have r:0<=O/\O<(H:Int):=by
  unfold ff at h;rw[db,db,asA hz]at h;cases e:bz O 0 (I ((H:Int)-1)) with
  |false=>rw[e]at h;cases h
  |true=>have:=qt e;rw[D5 (x:=(H:Int)-1) E E]at this;omega
 have w:=SK.v2.tb O.toNat E;rw[db]at w;have w':oB (A ao (A ao G)) O.toNat=0:=by rw[db];exact w
 have u:=VW w';refine⟨SK.tb O.toNat E,u.1,u.2,?_⟩;have s:=SK.sf;unfold LB at s;obtain⟨_,s⟩:=iQ s Ej;rw[BH r.1,cond_true]at s;obtain⟨s,_⟩:=iQ s Ej;have:=H3 s;omega
theorem hcb (he:Hd ex ey) (p:lP x y a b c d):∀k,k<Qm->LE (A L Qd) k=true->(0<=oX H (A ao G) T (A al Q) O n5 (A aN f5) n7 (A aX f7) n9 (A aY f9) q (A aG Y) (A L Qd) (A CE Qf) (k:Int) (bM (A aG Y k)) (d9 (A aG Y k)) (cH (A aG Y k)) (eV (A aG Y k)) (ck (A aG Y k)) a b c d ex ey/\oX H (A ao G) T (A al Q) O n5 (A aN f5) n7 (A aX f7) n9 (A aY f9) q (A aG Y) (A L Qd) (A CE Qf) (k:Int) (bM (A aG Y k)) (d9 (A aG Y k)) (cH (A aG Y k)) (eV (A aG Y k)) (ck (A aG Y k)) a b c d ex ey<=1000000000000000)/\0<=o7 H (A ao G) T (A al Q) O n5 (A aN f5) n7 (A aX f7) n9 (A aY f9) q (A aG Y) (A L Qd) (A CE Qf) (k:Int) (bM (A aG Y k)) (d9 (A aG Y k)) (cH (A aG Y k)) (eV (A aG Y k)) (ck (A aG Y k)) a b c d ex ey/\o7 H (A ao G) T (A al Q) O n5 (A aN f5) n7 (A aX f7) n9 (A aY f9) q (A aG Y) (A L Qd) (A CE Qf) (k:Int) (bM (A aG Y k)) (d9 (A aG Y k)) (cH (A aG Y k)) (eV (A aG Y k)) (ck (A aG Y k)) a b c d ex ey<=1000000000000000:=λk W ho=>by obtain⟨t,cl⟩:=BJ hz W ho;have h:=cl.ph;have Qa:I (100*(cH (A aG Y k)))=100*(cH (A aG Y k)):=D5 E E;have b0:=zO t (cx:=(bM (A aG Y k))) (cy:=(d9 (A aG Y k))) (dx:=(eV (A aG Y k))) (dy:=(ck (A aG Y k))) (a:=a) (b:=b) (c:=c) (d:=d) (Qa:=I (100*(cH (A aG Y k)))) ⟨by rw[Qa];omega,by rw[Qa];omega⟩;have m:=wA t cl.px cl.py cl.hd p p (Qa:=I (100*(cH (A aG Y k)))) ⟨by rw[Qa];omega,by rw[Qa];omega⟩;have o:=R78 (abk hz) cl.px cl.py cl.ph he p p;unfold oX o7;exact⟨(abW cl.ph b0.1.1 E ⟨o.1,E⟩).1,(abW cl.ph b0.2.1 b0.2.2 ⟨E,o.2.2⟩).2⟩
theorem wh (he:Hd ex ey) (p:lP x y a b c d) (p':lP x y a' b' c' d'):ml H (A ao G) T (A al Q) O n5 (A aN f5) n7 (A aX f7) n9 (A aY f9) q (A aG Y) (A L Qd) (A CE Qf) a b c d ex ey Qm<=mh H (A ao G) T (A al Q) O n5 (A aN f5) n7 (A aX f7) n9 (A aY f9) q (A aG Y) (A L Qd) (A CE Qf) a' b' c' d' ex ey Qm:=by have n:=Ny hz;have gb:=hcb hz he p;have gb':=hcb hz he p';refine E9 (B:=1000000000000000) (λk W ho=>(gb k W ho).1) (λk W ho=>(gb' k W ho).2) (λk W ho=>?_) E Ej Qm (Em _);obtain⟨t,cl⟩:=BJ hz W ho;have h:=cl.ph;have Qa:I (100*(cH (A aG Y k)))=100*(cH (A aG Y k)):=D5 E E;have b0:=zO t (cx:=(bM (A aG Y k))) (cy:=(d9 (A aG Y k))) (dx:=(eV (A aG Y k))) (dy:=(ck (A aG Y k))) (a:=a) (b:=b) (c:=c) (d:=d) (Qa:=I (100*(cH (A aG Y k)))) ⟨by rw[Qa];omega,by rw[Qa];omega⟩;have b1:=zO t (cx:=(bM (A aG Y k))) (cy:=(d9 (A aG Y k))) (dx:=(eV (A aG Y k))) (dy:=(ck (A aG Y k))) (a:=a') (b:=b') (c:=c') (d:=d') (Qa:=I (100*(cH (A aG Y k)))) ⟨by rw[Qa];omega,by rw[Qa];omega⟩;have m:=wA t cl.px cl.py cl.hd p p' (Qa:=I (100*(cH (A aG Y k)))) ⟨by rw[Qa];omega,by rw[Qa];omega⟩;have o:=R78 (abk hz) cl.px cl.py cl.ph he p p';unfold oX o7;exact yaE cl.ph b0.1.1 m b1.2.2 o.1 o.2.1 o.2.2 (crT _ _ _ _) (DD hz (k:=k) E p p')
end
theorem Wn {a b k:Int} (ha:-1000000000<=a) (hb:b<=1000000000) (h:a<=b) (W:0<=k/\k<=255):a<=ac a b k/\ac a b k<=b:=by have t:=btn h W;have m:=gC (x:=b-a) (X:=2000000000) (p:=k) (Qe:=255) ⟨E,E⟩ W;unfold ac;rw[D5 (x:=b-a) E E,D5 (x:=k) E E,D5 (x:=(b-a)*k) E E,D5 (x:=((b-a)*k).tdiv 255) E E,D5 E E];exact t
theorem Kd {a b c d:Int} (M:a<=d) (N:c<=b) (h3:a<=b) (h4:c<=d):fD a b c d=true:=by unfold fD;rw[BH M,BH N,BH h3,BH h4];rfl
theorem KU {b:Bool} (h:b=true):(!!b)=true:=by rw[h];rfl
theorem fm0 (z:Int):io 0 z=z:=rfl
theorem anY {dx dy O:Int} (h:p7 0 dx dy O=0):Hd dx dy:=by
 unfold p7 at h;cases e:kJ dx dy with
 |true=>exact ajk e|false=>rw[e]at h;cases h
theorem aho {e a b c d:Int} (he:e=0) (h:HN a b c d=true):bW e a b c d=0:=by unfold bW;rw[he,h];rfl
theorem acK {a b c d u v w z:Int} (h:HN a b c d=true) (hu:0<=u/\u<=255) (U:0<=v/\v<=255) (hw:0<=w/\w<=255) (hz:0<=z/\z<=255) :
 lP (ac a c u) (ac b d v) a b c d/\lP (ac a c u) (ac b d v) (ac a c u) (ac b d v) (ac a c u) (ac b d v)/\lP (ac a c u) (ac b d v) (ac a c u) (ac b d v) (ac (ac a c u) c w) (ac (ac b d v) d z):=by
 obtain⟨M,N,h3,h4,h5,h6⟩:=akG h;have t1:=Wn E E h5 hu;have t2:=Wn E E h6 U;have t3:=Wn (a:=ac a c u) (b:=c) E E t1.2 hw;have t4:=Wn (a:=ac b d v) (b:=d) E E t2.2 hz;exact⟨⟨E,E,E,E,t1,t2⟩,⟨E,E,E,E,⟨Ep _,Ep _⟩,Ep _,Ep _⟩,⟨E,E,E,E,⟨Ep _,t3.1⟩,Ep _,t4.1⟩⟩
theorem lP.pl {x y a b c d:Int} (p:lP x y a b c d):HN a b c d=true:=by have p1:=p.la;have p2:=p.lb;have p3:=p.uc;have p4:=p.ud;have p5:=p.ix;have p6:=p.iy;exact alm ⟨E,E⟩ ⟨E,E⟩ ⟨E,E⟩ ⟨E,E⟩ E E
def aar:bm:=(8,.con ab1)::(7,.con acj)::(11,.con aaT)::(9,.con hbw)::(10,.con fz6)::Jt
theorem ahj:aV Tryz.prog BN D7 aar:=.con ad5 (.con aeA (.con agP (.con aep (.con aea (Fa)))))
def hdd:RT Empty:=.obp (aI H (A ao G)/\aI T (A al Q)/\aI n5 (A aN f5)/\aI q (A aG Y)) (.obt (.br (bW (ej H (A ao G) T (A al Q) O n5 (A aN f5) n7 (A aX f7) n9 (A aY f9) q (A aG Y) Qm (A L Qd) Qu (A CE Qf)) QY Qv Qi Qk !=0) (.cb (.ret (V.bool true))) (.obt (.cb (.obt (.cb (.obt (.cb (.obt (.cb (.obp (aI H (A ao G)/\aI T (A al Q)/\aI n5 (A aN f5)/\aI q (A aG Y)) (.obt (.obp (aI H (A ao G)/\aI T (A al Q)/\aI n5 (A aN f5)/\aI q (A aG Y)) (.obt (.ii (.br (!bif bW (ej H (A ao G) T (A al Q) O n5 (A aN f5) n7 (A aX f7) n9 (A aY f9) q (A aG Y) Qm (A L Qd) Qu (A CE Qf)) (ac QY Qi Qr) (ac Qv Qk Qt) (ac QY Qi Qr) (ac Qv Qk Qt)!=0 then true else bW (ej H (A ao G) T (A al Q) O n5 (A aN f5) n7 (A aX f7) n9 (A aY f9) q (A aG Y) Qm (A L Qd) Qu (A CE Qf)) (ac QY Qi Qr) (ac Qv Qk Qt) (ac (ac QY Qi Qr) Qi RA) (ac (ac Qv Qk Qt) Qk R5)!=0) (.ob (!bif bW (ej H (A ao G) T (A al Q) O n5 (A aN f5) n7 (A aX f7) n9 (A aY f9) q (A aG Y) Qm (A L Qd) Qu (A CE Qf)) (ac QY Qi Qr) (ac Qv Qk Qt) (ac QY Qi Qr) (ac Qv Qk Qt)!=0 then true else bW (ej H (A ao G) T (A al Q) O n5 (A aN f5) n7 (A aX f7) n9 (A aY f9) q (A aG Y) Qm (A L Qd) Qu (A CE Qf)) (ac QY Qi Qr) (ac Qv Qk Qt) (ac (ac QY Qi Qr) Qi RA) (ac (ac Qv Qk Qt) Qk R5)!=0) (.ob (!bif bW (ej H (A ao G) T (A al Q) O n5 (A aN f5) n7 (A aX f7) n9 (A aY f9) q (A aG Y) Qm (A L Qd) Qu (A CE Qf)) (ac QY Qi Qr) (ac Qv Qk Qt) (ac QY Qi Qr) (ac Qv Qk Qt)!=0 then true else bW (ej H (A ao G) T (A al Q) O n5 (A aN f5) n7 (A aX f7) n9 (A aY f9) q (A aG Y) Qm (A L Qd) Qu (A CE Qf)) (ac QY Qi Qr) (ac Qv Qk Qt) (ac (ac QY Qi Qr) Qi RA) (ac (ac Qv Qk Qt) Qk R5)!=0) (.cb (.br (!!fD (io (bW (ej H (A ao G) T (A al Q) O n5 (A aN f5) n7 (A aX f7) n9 (A aY f9) q (A aG Y) Qm (A L Qd) Qu (A CE Qf)) QY Qv Qi Qk) (dY H (A ao G) T (A al Q) n5 (A aN f5) n7 (A aX f7) n9 (A aY f9) q (A aG Y) (A L Qd) (A CE Qf) QY Qv Qi Qk Qm)) (io (bW (ej H (A ao G) T (A al Q) O n5 (A aN f5) n7 (A aX f7) n9 (A aY f9) q (A aG Y) Qm (A L Qd) Qu (A CE Qf)) QY Qv Qi Qk) (eR H (A ao G) T (A al Q) n5 (A aN f5) n7 (A aX f7) n9 (A aY f9) q (A aG Y) (A L Qd) (A CE Qf) QY Qv Qi Qk Qm)) (io (bW (ej H (A ao G) T (A al Q) O n5 (A aN f5) n7 (A aX f7) n9 (A aY f9) q (A aG Y) Qm (A L Qd) Qu (A CE Qf)) (ac QY Qi Qr) (ac Qv Qk Qt) (ac QY Qi Qr) (ac Qv Qk Qt)) (dY H (A ao G) T (A al Q) n5 (A aN f5) n7 (A aX f7) n9 (A aY f9) q (A aG Y) (A L Qd) (A CE Qf) (ac QY Qi Qr) (ac Qv Qk Qt) (ac QY Qi Qr) (ac Qv Qk Qt) Qm)) (io (bW (ej H (A ao G) T (A al Q) O n5 (A aN f5) n7 (A aX f7) n9 (A aY f9) q (A aG Y) Qm (A L Qd) Qu (A CE Qf)) (ac QY Qi Qr) (ac Qv Qk Qt) (ac QY Qi Qr) (ac Qv Qk Qt)) (eR H (A ao G) T (A al Q) n5 (A aN f5) n7 (A aX f7) n9 (A aY f9) q (A aG Y) (A L Qd) (A CE Qf) (ac QY Qi Qr) (ac Qv Qk Qt) (ac QY Qi Qr) (ac Qv Qk Qt) Qm))) (.ob (!!fD (io (bW (ej H (A ao G) T (A al Q) O n5 (A aN f5) n7 (A aX f7) n9 (A aY f9) q (A aG Y) Qm (A L Qd) Qu (A CE Qf)) QY Qv Qi Qk) (dY H (A ao G) T (A al Q) n5 (A aN f5) n7 (A aX f7) n9 (A aY f9) q (A aG Y) (A L Qd) (A CE Qf) QY Qv Qi Qk Qm)) (io (bW (ej H (A ao G) T (A al Q) O n5 (A aN f5) n7 (A aX f7) n9 (A aY f9) q (A aG Y) Qm (A L Qd) Qu (A CE Qf)) QY Qv Qi Qk) (eR H (A ao G) T (A al Q) n5 (A aN f5) n7 (A aX f7) n9 (A aY f9) q (A aG Y) (A L Qd) (A CE Qf) QY Qv Qi Qk Qm)) (io (bW (ej H (A ao G) T (A al Q) O n5 (A aN f5) n7 (A aX f7) n9 (A aY f9) q (A aG Y) Qm (A L Qd) Qu (A CE Qf)) (ac QY Qi Qr) (ac Qv Qk Qt) (ac QY Qi Qr) (ac Qv Qk Qt)) (dY H (A ao G) T (A al Q) n5 (A aN f5) n7 (A aX f7) n9 (A aY f9) q (A aG Y) (A L Qd) (A CE Qf) (ac QY Qi Qr) (ac Qv Qk Qt) (ac QY Qi Qr) (ac Qv Qk Qt) Qm)) (io (bW (ej H (A ao G) T (A al Q) O n5 (A aN f5) n7 (A aX f7) n9 (A aY f9) q (A aG Y) Qm (A L Qd) Qu (A CE Qf)) (ac QY Qi Qr) (ac Qv Qk Qt) (ac QY Qi Qr) (ac Qv Qk Qt)) (eR H (A ao G) T (A al Q) n5 (A aN f5) n7 (A aX f7) n9 (A aY f9) q (A aG Y) (A L Qd) (A CE Qf) (ac QY Qi Qr) (ac Qv Qk Qt) (ac QY Qi Qr) (ac Qv Qk Qt) Qm))) (.ob (!!fD (io (bW (ej H (A ao G) T (A al Q) O n5 (A aN f5) n7 (A aX f7) n9 (A aY f9) q (A aG Y) Qm (A L Qd) Qu (A CE Qf)) QY Qv Qi Qk) (dY H (A ao G) T (A al Q) n5 (A aN f5) n7 (A aX f7) n9 (A aY f9) q (A aG Y) (A L Qd) (A CE Qf) QY Qv Qi Qk Qm)) (io (bW (ej H (A ao G) T (A al Q) O n5 (A aN f5) n7 (A aX f7) n9 (A aY f9) q (A aG Y) Qm (A L Qd) Qu (A CE Qf)) QY Qv Qi Qk) (eR H (A ao G) T (A al Q) n5 (A aN f5) n7 (A aX f7) n9 (A aY f9) q (A aG Y) (A L Qd) (A CE Qf) QY Qv Qi Qk Qm)) (io (bW (ej H (A ao G) T (A al Q) O n5 (A aN f5) n7 (A aX f7) n9 (A aY f9) q (A aG Y) Qm (A L Qd) Qu (A CE Qf)) (ac QY Qi Qr) (ac Qv Qk Qt) (ac QY Qi Qr) (ac Qv Qk Qt)) (dY H (A ao G) T (A al Q) n5 (A aN f5) n7 (A aX f7) n9 (A aY f9) q (A aG Y) (A L Qd) (A CE Qf) (ac QY Qi Qr) (ac Qv Qk Qt) (ac QY Qi Qr) (ac Qv Qk Qt) Qm)) (io (bW (ej H (A ao G) T (A al Q) O n5 (A aN f5) n7 (A aX f7) n9 (A aY f9) q (A aG Y) Qm (A L Qd) Qu (A CE Qf)) (ac QY Qi Qr) (ac Qv Qk Qt) (ac QY Qi Qr) (ac Qv Qk Qt)) (eR H (A ao G) T (A al Q) n5 (A aN f5) n7 (A aX f7) n9 (A aY f9) q (A aG Y) (A L Qd) (A CE Qf) (ac QY Qi Qr) (ac Qv Qk Qt) (ac QY Qi Qr) (ac Qv Qk Qt) Qm))) (.cb (.br (!!fD (io (bW (ej H (A ao G) T (A al Q) O n5 (A aN f5) n7 (A aX f7) n9 (A aY f9) q (A aG Y) Qm (A L Qd) Qu (A CE Qf)) QY Qv Qi Qk) (dY H (A ao G) T (A al Q) n5 (A aN f5) n7 (A aX f7) n9 (A aY f9) q (A aG Y) (A L Qd) (A CE Qf) QY Qv Qi Qk Qm)) (io (bW (ej H (A ao G) T (A al Q) O n5 (A aN f5) n7 (A aX f7) n9 (A aY f9) q (A aG Y) Qm (A L Qd) Qu (A CE Qf)) QY Qv Qi Qk) (eR H (A ao G) T (A al Q) n5 (A aN f5) n7 (A aX f7) n9 (A aY f9) q (A aG Y) (A L Qd) (A CE Qf) QY Qv Qi Qk Qm)) (io (bW (ej H (A ao G) T (A al Q) O n5 (A aN f5) n7 (A aX f7) n9 (A aY f9) q (A aG Y) Qm (A L Qd) Qu (A CE Qf)) (ac QY Qi Qr) (ac Qv Qk Qt) (ac (ac QY Qi Qr) Qi RA) (ac (ac Qv Qk Qt) Qk R5)) (dY H (A ao G) T (A al Q) n5 (A aN f5) n7 (A aX f7) n9 (A aY f9) q (A aG Y) (A L Qd) (A CE Qf) (ac QY Qi Qr) (ac Qv Qk Qt) (ac (ac QY Qi Qr) Qi RA) (ac (ac Qv Qk Qt) Qk R5) Qm)) (io (bW (ej H (A ao G) T (A al Q) O n5 (A aN f5) n7 (A aX f7) n9 (A aY f9) q (A aG Y) Qm (A L Qd) Qu (A CE Qf)) (ac QY Qi Qr) (ac Qv Qk Qt) (ac (ac QY Qi Qr) Qi RA) (ac (ac Qv Qk Qt) Qk R5)) (eR H (A ao G) T (A al Q) n5 (A aN f5) n7 (A aX f7) n9 (A aY f9) q (A aG Y) (A L Qd) (A CE Qf) (ac QY Qi Qr) (ac Qv Qk Qt) (ac (ac QY Qi Qr) Qi RA) (ac (ac Qv Qk Qt) Qk R5) Qm))) (.ob (!!fD (io (bW (ej H (A ao G) T (A al Q) O n5 (A aN f5) n7 (A aX f7) n9 (A aY f9) q (A aG Y) Qm (A L Qd) Qu (A CE Qf)) QY Qv Qi Qk) (dY H (A ao G) T (A al Q) n5 (A aN f5) n7 (A aX f7) n9 (A aY f9) q (A aG Y) (A L Qd) (A CE Qf) QY Qv Qi Qk Qm)) (io (bW (ej H (A ao G) T (A al Q) O n5 (A aN f5) n7 (A aX f7) n9 (A aY f9) q (A aG Y) Qm (A L Qd) Qu (A CE Qf)) QY Qv Qi Qk) (eR H (A ao G) T (A al Q) n5 (A aN f5) n7 (A aX f7) n9 (A aY f9) q (A aG Y) (A L Qd) (A CE Qf) QY Qv Qi Qk Qm)) (io (bW (ej H (A ao G) T (A al Q) O n5 (A aN f5) n7 (A aX f7) n9 (A aY f9) q (A aG Y) Qm (A L Qd) Qu (A CE Qf)) (ac QY Qi Qr) (ac Qv Qk Qt) (ac (ac QY Qi Qr) Qi RA) (ac (ac Qv Qk Qt) Qk R5)) (dY H (A ao G) T (A al Q) n5 (A aN f5) n7 (A aX f7) n9 (A aY f9) q (A aG Y) (A L Qd) (A CE Qf) (ac QY Qi Qr) (ac Qv Qk Qt) (ac (ac QY Qi Qr) Qi RA) (ac (ac Qv Qk Qt) Qk R5) Qm)) (io (bW (ej H (A ao G) T (A al Q) O n5 (A aN f5) n7 (A aX f7) n9 (A aY f9) q (A aG Y) Qm (A L Qd) Qu (A CE Qf)) (ac QY Qi Qr) (ac Qv Qk Qt) (ac (ac QY Qi Qr) Qi RA) (ac (ac Qv Qk Qt) Qk R5)) (eR H (A ao G) T (A al Q) n5 (A aN f5) n7 (A aX f7) n9 (A aY f9) q (A aG Y) (A L Qd) (A CE Qf) (ac QY Qi Qr) (ac Qv Qk Qt) (ac (ac QY Qi Qr) Qi RA) (ac (ac Qv Qk Qt) Qk R5) Qm))) (.ob (!!fD (io (bW (ej H (A ao G) T (A al Q) O n5 (A aN f5) n7 (A aX f7) n9 (A aY f9) q (A aG Y) Qm (A L Qd) Qu (A CE Qf)) QY Qv Qi Qk) (dY H (A ao G) T (A al Q) n5 (A aN f5) n7 (A aX f7) n9 (A aY f9) q (A aG Y) (A L Qd) (A CE Qf) QY Qv Qi Qk Qm)) (io (bW (ej H (A ao G) T (A al Q) O n5 (A aN f5) n7 (A aX f7) n9 (A aY f9) q (A aG Y) Qm (A L Qd) Qu (A CE Qf)) QY Qv Qi Qk) (eR H (A ao G) T (A al Q) n5 (A aN f5) n7 (A aX f7) n9 (A aY f9) q (A aG Y) (A L Qd) (A CE Qf) QY Qv Qi Qk Qm)) (io (bW (ej H (A ao G) T (A al Q) O n5 (A aN f5) n7 (A aX f7) n9 (A aY f9) q (A aG Y) Qm (A L Qd) Qu (A CE Qf)) (ac QY Qi Qr) (ac Qv Qk Qt) (ac (ac QY Qi Qr) Qi RA) (ac (ac Qv Qk Qt) Qk R5)) (dY H (A ao G) T (A al Q) n5 (A aN f5) n7 (A aX f7) n9 (A aY f9) q (A aG Y) (A L Qd) (A CE Qf) (ac QY Qi Qr) (ac Qv Qk Qt) (ac (ac QY Qi Qr) Qi RA) (ac (ac Qv Qk Qt) Qk R5) Qm)) (io (bW (ej H (A ao G) T (A al Q) O n5 (A aN f5) n7 (A aX f7) n9 (A aY f9) q (A aG Y) Qm (A L Qd) Qu (A CE Qf)) (ac QY Qi Qr) (ac Qv Qk Qt) (ac (ac QY Qi Qr) Qi RA) (ac (ac Qv Qk Qt) Qk R5)) (eR H (A ao G) T (A al Q) n5 (A aN f5) n7 (A aX f7) n9 (A aY f9) q (A aG Y) (A L Qd) (A CE Qf) (ac QY Qi Qr) (ac Qv Qk Qt) (ac (ac QY Qi Qr) Qi RA) (ac (ac Qv Qk Qt) Qk R5) Qm))) (.cb (.ii (.obi (.br (bif !fD (io (bW (ej H (A ao G) T (A al Q) O n5 (A aN f5) n7 (A aX f7) n9 (A aY f9) q (A aG Y) Qm (A L Qd) Qu (A CE Qf)) (ac QY Qi Qr) (ac Qv Qk Qt) (ac QY Qi Qr) (ac Qv Qk Qt)) (dY H (A ao G) T (A al Q) n5 (A aN f5) n7 (A aX f7) n9 (A aY f9) q (A aG Y) (A L Qd) (A CE Qf) (ac QY Qi Qr) (ac Qv Qk Qt) (ac QY Qi Qr) (ac Qv Qk Qt) Qm)) (io (bW (ej H (A ao G) T (A al Q) O n5 (A aN f5) n7 (A aX f7) n9 (A aY f9) q (A aG Y) Qm (A L Qd) Qu (A CE Qf)) (ac QY Qi Qr) (ac Qv Qk Qt) (ac QY Qi Qr) (ac Qv Qk Qt)) (eR H (A ao G) T (A al Q) n5 (A aN f5) n7 (A aX f7) n9 (A aY f9) q (A aG Y) (A L Qd) (A CE Qf) (ac QY Qi Qr) (ac Qv Qk Qt) (ac QY Qi Qr) (ac Qv Qk Qt) Qm)) (io (bW (ej H (A ao G) T (A al Q) O n5 (A aN f5) n7 (A aX f7) n9 (A aY f9) q (A aG Y) Qm (A L Qd) Qu (A CE Qf)) (ac QY Qi Qr) (ac Qv Qk Qt) (ac (ac QY Qi Qr) Qi RA) (ac (ac Qv Qk Qt) Qk R5)) (dY H (A ao G) T (A al Q) n5 (A aN f5) n7 (A aX f7) n9 (A aY f9) q (A aG Y) (A L Qd) (A CE Qf) (ac QY Qi Qr) (ac Qv Qk Qt) (ac (ac QY Qi Qr) Qi RA) (ac (ac Qv Qk Qt) Qk R5) Qm)) (io (bW (ej H (A ao G) T (A al Q) O n5 (A aN f5) n7 (A aX f7) n9 (A aY f9) q (A aG Y) Qm (A L Qd) Qu (A CE Qf)) (ac QY Qi Qr) (ac Qv Qk Qt) (ac (ac QY Qi Qr) Qi RA) (ac (ac Qv Qk Qt) Qk R5)) (eR H (A ao G) T (A al Q) n5 (A aN f5) n7 (A aX f7) n9 (A aY f9) q (A aG Y) (A L Qd) (A CE Qf) (ac QY Qi Qr) (ac Qv Qk Qt) (ac (ac QY Qi Qr) Qi RA) (ac (ac Qv Qk Qt) Qk R5) Qm)) then true else decide (io (bW (ej H (A ao G) T (A al Q) O n5 (A aN f5) n7 (A aX f7) n9 (A aY f9) q (A aG Y) Qm (A L Qd) Qu (A CE Qf)) (ac QY Qi Qr) (ac Qv Qk Qt) (ac QY Qi Qr) (ac Qv Qk Qt)) (dY H (A ao G) T (A al Q) n5 (A aN f5) n7 (A aX f7) n9 (A aY f9) q (A aG Y) (A L Qd) (A CE Qf) (ac QY Qi Qr) (ac Qv Qk Qt) (ac QY Qi Qr) (ac Qv Qk Qt) Qm)<0)) (.ret (V.kb false)) (.obt (.obt (.obp (aI H (A ao G)/\aI T (A al Q)/\aI n5 (A aN f5)/\aI q (A aG Y)) (.obt (.obp (aI H (A ao G)/\aI T (A al Q)/\aI n5 (A aN f5)/\aI q (A aG Y)) (.obt (.br (p7 (bW (ej H (A ao G) T (A al Q) O n5 (A aN f5) n7 (A aX f7) n9 (A aY f9) q (A aG Y) Qm (A L Qd) Qu (A CE Qf)) QY Qv Qi Qk) (I (I RA-127)) (I (I R5-127)) O !=0) (.br (p7 (bW (ej H (A ao G) T (A al Q) O n5 (A aN f5) n7 (A aX f7) n9 (A aY f9) q (A aG Y) Qm (A L Qd) Qu (A CE Qf)) QY Qv Qi Qk) (I (I RA-127)) (I (I R5-127)) O==p7 (bW (ej H (A ao G) T (A al Q) O n5 (A aN f5) n7 (A aX f7) n9 (A aY f9) q (A aG Y) Qm (A L Qd) Qu (A CE Qf)) (ac QY Qi Qr) (ac Qv Qk Qt) (ac QY Qi Qr) (ac Qv Qk Qt)) (I (I RA-127)) (I (I R5-127)) O) (.cb (.ret (V.bool true))) (.ret (V.kb false))) (.br (p7 (bW (ej H (A ao G) T (A al Q) O n5 (A aN f5) n7 (A aX f7) n9 (A aY f9) q (A aG Y) Qm (A L Qd) Qu (A CE Qf)) (ac QY Qi Qr) (ac Qv Qk Qt) (ac QY Qi Qr) (ac Qv Qk Qt)) (I (I RA-127)) (I (I R5-127)) O==0) (.ob (p7 (bW (ej H (A ao G) T (A al Q) O n5 (A aN f5) n7 (A aX f7) n9 (A aY f9) q (A aG Y) Qm (A L Qd) Qu (A CE Qf)) (ac QY Qi Qr) (ac Qv Qk Qt) (ac QY Qi Qr) (ac Qv Qk Qt)) (I (I RA-127)) (I (I R5-127)) O==0) (.ob (p7 (bW (ej H (A ao G) T (A al Q) O n5 (A aN f5) n7 (A aX f7) n9 (A aY f9) q (A aG Y) Qm (A L Qd) Qu (A CE Qf)) (ac QY Qi Qr) (ac Qv Qk Qt) (ac QY Qi Qr) (ac Qv Qk Qt)) (I (I RA-127)) (I (I R5-127)) O==0) (.cb (.br (fD (io (p7 (bW (ej H (A ao G) T (A al Q) O n5 (A aN f5) n7 (A aX f7) n9 (A aY f9) q (A aG Y) Qm (A L Qd) Qu (A CE Qf)) QY Qv Qi Qk) (I (I RA-127)) (I (I R5-127)) O) (ml H (A ao G) T (A al Q) O n5 (A aN f5) n7 (A aX f7) n9 (A aY f9) q (A aG Y) (A L Qd) (A CE Qf) QY Qv Qi Qk (I (I RA-127)) (I (I R5-127)) Qm)) (io (p7 (bW (ej H (A ao G) T (A al Q) O n5 (A aN f5) n7 (A aX f7) n9 (A aY f9) q (A aG Y) Qm (A L Qd) Qu (A CE Qf)) QY Qv Qi Qk) (I (I RA-127)) (I (I R5-127)) O) (mh H (A ao G) T (A al Q) O n5 (A aN f5) n7 (A aX f7) n9 (A aY f9) q (A aG Y) (A L Qd) (A CE Qf) QY Qv Qi Qk (I (I RA-127)) (I (I R5-127)) Qm)) (io (p7 (bW (ej H (A ao G) T (A al Q) O n5 (A aN f5) n7 (A aX f7) n9 (A aY f9) q (A aG Y) Qm (A L Qd) Qu (A CE Qf)) (ac QY Qi Qr) (ac Qv Qk Qt) (ac QY Qi Qr) (ac Qv Qk Qt)) (I (I RA-127)) (I (I R5-127)) O) (ml H (A ao G) T (A al Q) O n5 (A aN f5) n7 (A aX f7) n9 (A aY f9) q (A aG Y) (A L Qd) (A CE Qf) (ac QY Qi Qr) (ac Qv Qk Qt) (ac QY Qi Qr) (ac Qv Qk Qt) (I (I RA-127)) (I (I R5-127)) Qm)) (io (p7 (bW (ej H (A ao G) T (A al Q) O n5 (A aN f5) n7 (A aX f7) n9 (A aY f9) q (A aG Y) Qm (A L Qd) Qu (A CE Qf)) (ac QY Qi Qr) (ac Qv Qk Qt) (ac QY Qi Qr) (ac Qv Qk Qt)) (I (I RA-127)) (I (I R5-127)) O) (mh H (A ao G) T (A al Q) O n5 (A aN f5) n7 (A aX f7) n9 (A aY f9) q (A aG Y) (A L Qd) (A CE Qf) (ac QY Qi Qr) (ac Qv Qk Qt) (ac QY Qi Qr) (ac Qv Qk Qt) (I (I RA-127)) (I (I R5-127)) Qm))) (.cb (.ret (V.bool true))) (.ret (V.kb false)))))) (.ret (V.kb false)))))))))))))))) (.ret (V.kb false)))))) (.ret (V.kb false)))))) (.ret (V.kb false))))))))))))))))))
theorem jcs:dZ d7 (ba JJ aar u0 agC [V.agg [V.sl H (A ao G),V.sl T (A al Q),D O,V.sl n5 (A aN f5),V.sl n7 (A aX f7),V.sl n9 (A aY f9),V.sl q (A aG Y),V.sl Qm (A L Qd),V.sl Qu (A CE Qf)],V.agg [D QY,D Qv,D Qi,D Qk],V.agg [V.int u8 Qr,V.int u8 Qt,V.int u8 RA,V.int u8 R5]]) (hdd H G T Q O n5 f5 n7 f7 n9 f9 q Y Qm Qd Qu Qf QY Qv Qi Qk Qr Qt RA R5):=cG
def fza26:Bool:=bif bW (ej H (A ao G) T (A al Q) O n5 (A aN f5) n7 (A aX f7) n9 (A aY f9) q (A aG Y) Qm (A L Qd) Qu (A CE Qf)) QY Qv Qi Qk !=0 then true else bif !bif bW (ej H (A ao G) T (A al Q) O n5 (A aN f5) n7 (A aX f7) n9 (A aY f9) q (A aG Y) Qm (A L Qd) Qu (A CE Qf)) (ac QY Qi Qr) (ac Qv Qk Qt) (ac QY Qi Qr) (ac Qv Qk Qt)!=0 then true else bW (ej H (A ao G) T (A al Q) O n5 (A aN f5) n7 (A aX f7) n9 (A aY f9) q (A aG Y) Qm (A L Qd) Qu (A CE Qf)) (ac QY Qi Qr) (ac Qv Qk Qt) (ac (ac QY Qi Qr) Qi RA) (ac (ac Qv Qk Qt) Qk R5)!=0 then bif !!fD (io (bW (ej H (A ao G) T (A al Q) O n5 (A aN f5) n7 (A aX f7) n9 (A aY f9) q (A aG Y) Qm (A L Qd) Qu (A CE Qf)) QY Qv Qi Qk) (dY H (A ao G) T (A al Q) n5 (A aN f5) n7 (A aX f7) n9 (A aY f9) q (A aG Y) (A L Qd) (A CE Qf) QY Qv Qi Qk Qm)) (io (bW (ej H (A ao G) T (A al Q) O n5 (A aN f5) n7 (A aX f7) n9 (A aY f9) q (A aG Y) Qm (A L Qd) Qu (A CE Qf)) QY Qv Qi Qk) (eR H (A ao G) T (A al Q) n5 (A aN f5) n7 (A aX f7) n9 (A aY f9) q (A aG Y) (A L Qd) (A CE Qf) QY Qv Qi Qk Qm)) (io (bW (ej H (A ao G) T (A al Q) O n5 (A aN f5) n7 (A aX f7) n9 (A aY f9) q (A aG Y) Qm (A L Qd) Qu (A CE Qf)) (ac QY Qi Qr) (ac Qv Qk Qt) (ac QY Qi Qr) (ac Qv Qk Qt)) (dY H (A ao G) T (A al Q) n5 (A aN f5) n7 (A aX f7) n9 (A aY f9) q (A aG Y) (A L Qd) (A CE Qf) (ac QY Qi Qr) (ac Qv Qk Qt) (ac QY Qi Qr) (ac Qv Qk Qt) Qm)) (io (bW (ej H (A ao G) T (A al Q) O n5 (A aN f5) n7 (A aX f7) n9 (A aY f9) q (A aG Y) Qm (A L Qd) Qu (A CE Qf)) (ac QY Qi Qr) (ac Qv Qk Qt) (ac QY Qi Qr) (ac Qv Qk Qt)) (eR H (A ao G) T (A al Q) n5 (A aN f5) n7 (A aX f7) n9 (A aY f9) q (A aG Y) (A L Qd) (A CE Qf) (ac QY Qi Qr) (ac Qv Qk Qt) (ac QY Qi Qr) (ac Qv Qk Qt) Qm)) then bif !!fD (io (bW (ej H (A ao G) T (A al Q) O n5 (A aN f5) n7 (A aX f7) n9 (A aY f9) q (A aG Y) Qm (A L Qd) Qu (A CE Qf)) QY Qv Qi Qk) (dY H (A ao G) T (A al Q) n5 (A aN f5) n7 (A aX f7) n9 (A aY f9) q (A aG Y) (A L Qd) (A CE Qf) QY Qv Qi Qk Qm)) (io (bW (ej H (A ao G) T (A al Q) O n5 (A aN f5) n7 (A aX f7) n9 (A aY f9) q (A aG Y) Qm (A L Qd) Qu (A CE Qf)) QY Qv Qi Qk) (eR H (A ao G) T (A al Q) n5 (A aN f5) n7 (A aX f7) n9 (A aY f9) q (A aG Y) (A L Qd) (A CE Qf) QY Qv Qi Qk Qm)) (io (bW (ej H (A ao G) T (A al Q) O n5 (A aN f5) n7 (A aX f7) n9 (A aY f9) q (A aG Y) Qm (A L Qd) Qu (A CE Qf)) (ac QY Qi Qr) (ac Qv Qk Qt) (ac (ac QY Qi Qr) Qi RA) (ac (ac Qv Qk Qt) Qk R5)) (dY H (A ao G) T (A al Q) n5 (A aN f5) n7 (A aX f7) n9 (A aY f9) q (A aG Y) (A L Qd) (A CE Qf) (ac QY Qi Qr) (ac Qv Qk Qt) (ac (ac QY Qi Qr) Qi RA) (ac (ac Qv Qk Qt) Qk R5) Qm)) (io (bW (ej H (A ao G) T (A al Q) O n5 (A aN f5) n7 (A aX f7) n9 (A aY f9) q (A aG Y) Qm (A L Qd) Qu (A CE Qf)) (ac QY Qi Qr) (ac Qv Qk Qt) (ac (ac QY Qi Qr) Qi RA) (ac (ac Qv Qk Qt) Qk R5)) (eR H (A ao G) T (A al Q) n5 (A aN f5) n7 (A aX f7) n9 (A aY f9) q (A aG Y) (A L Qd) (A CE Qf) (ac QY Qi Qr) (ac Qv Qk Qt) (ac (ac QY Qi Qr) Qi RA) (ac (ac Qv Qk Qt) Qk R5) Qm)) then bif bif !fD (io (bW (ej H (A ao G) T (A al Q) O n5 (A aN f5) n7 (A aX f7) n9 (A aY f9) q (A aG Y) Qm (A L Qd) Qu (A CE Qf)) (ac QY Qi Qr) (ac Qv Qk Qt) (ac QY Qi Qr) (ac Qv Qk Qt)) (dY H (A ao G) T (A al Q) n5 (A aN f5) n7 (A aX f7) n9 (A aY f9) q (A aG Y) (A L Qd) (A CE Qf) (ac QY Qi Qr) (ac Qv Qk Qt) (ac QY Qi Qr) (ac Qv Qk Qt) Qm)) (io (bW (ej H (A ao G) T (A al Q) O n5 (A aN f5) n7 (A aX f7) n9 (A aY f9) q (A aG Y) Qm (A L Qd) Qu (A CE Qf)) (ac QY Qi Qr) (ac Qv Qk Qt) (ac QY Qi Qr) (ac Qv Qk Qt)) (eR H (A ao G) T (A al Q) n5 (A aN f5) n7 (A aX f7) n9 (A aY f9) q (A aG Y) (A L Qd) (A CE Qf) (ac QY Qi Qr) (ac Qv Qk Qt) (ac QY Qi Qr) (ac Qv Qk Qt) Qm)) (io (bW (ej H (A ao G) T (A al Q) O n5 (A aN f5) n7 (A aX f7) n9 (A aY f9) q (A aG Y) Qm (A L Qd) Qu (A CE Qf)) (ac QY Qi Qr) (ac Qv Qk Qt) (ac (ac QY Qi Qr) Qi RA) (ac (ac Qv Qk Qt) Qk R5)) (dY H (A ao G) T (A al Q) n5 (A aN f5) n7 (A aX f7) n9 (A aY f9) q (A aG Y) (A L Qd) (A CE Qf) (ac QY Qi Qr) (ac Qv Qk Qt) (ac (ac QY Qi Qr) Qi RA) (ac (ac Qv Qk Qt) Qk R5) Qm)) (io (bW (ej H (A ao G) T (A al Q) O n5 (A aN f5) n7 (A aX f7) n9 (A aY f9) q (A aG Y) Qm (A L Qd) Qu (A CE Qf)) (ac QY Qi Qr) (ac Qv Qk Qt) (ac (ac QY Qi Qr) Qi RA) (ac (ac Qv Qk Qt) Qk R5)) (eR H (A ao G) T (A al Q) n5 (A aN f5) n7 (A aX f7) n9 (A aY f9) q (A aG Y) (A L Qd) (A CE Qf) (ac QY Qi Qr) (ac Qv Qk Qt) (ac (ac QY Qi Qr) Qi RA) (ac (ac Qv Qk Qt) Qk R5) Qm)) then true else decide (io (bW (ej H (A ao G) T (A al Q) O n5 (A aN f5) n7 (A aX f7) n9 (A aY f9) q (A aG Y) Qm (A L Qd) Qu (A CE Qf)) (ac QY Qi Qr) (ac Qv Qk Qt) (ac QY Qi Qr) (ac Qv Qk Qt)) (dY H (A ao G) T (A al Q) n5 (A aN f5) n7 (A aX f7) n9 (A aY f9) q (A aG Y) (A L Qd) (A CE Qf) (ac QY Qi Qr) (ac Qv Qk Qt) (ac QY Qi Qr) (ac Qv Qk Qt) Qm)<0) then false else bif p7 (bW (ej H (A ao G) T (A al Q) O n5 (A aN f5) n7 (A aX f7) n9 (A aY f9) q (A aG Y) Qm (A L Qd) Qu (A CE Qf)) QY Qv Qi Qk) (I (I RA-127)) (I (I R5-127)) O !=0 then bif p7 (bW (ej H (A ao G) T (A al Q) O n5 (A aN f5) n7 (A aX f7) n9 (A aY f9) q (A aG Y) Qm (A L Qd) Qu (A CE Qf)) QY Qv Qi Qk) (I (I RA-127)) (I (I R5-127)) O==p7 (bW (ej H (A ao G) T (A al Q) O n5 (A aN f5) n7 (A aX f7) n9 (A aY f9) q (A aG Y) Qm (A L Qd) Qu (A CE Qf)) (ac QY Qi Qr) (ac Qv Qk Qt) (ac QY Qi Qr) (ac Qv Qk Qt)) (I (I RA-127)) (I (I R5-127)) O then true else false else bif p7 (bW (ej H (A ao G) T (A al Q) O n5 (A aN f5) n7 (A aX f7) n9 (A aY f9) q (A aG Y) Qm (A L Qd) Qu (A CE Qf)) (ac QY Qi Qr) (ac Qv Qk Qt) (ac QY Qi Qr) (ac Qv Qk Qt)) (I (I RA-127)) (I (I R5-127)) O==0 then bif fD (io (p7 (bW (ej H (A ao G) T (A al Q) O n5 (A aN f5) n7 (A aX f7) n9 (A aY f9) q (A aG Y) Qm (A L Qd) Qu (A CE Qf)) QY Qv Qi Qk) (I (I RA-127)) (I (I R5-127)) O) (ml H (A ao G) T (A al Q) O n5 (A aN f5) n7 (A aX f7) n9 (A aY f9) q (A aG Y) (A L Qd) (A CE Qf) QY Qv Qi Qk (I (I RA-127)) (I (I R5-127)) Qm)) (io (p7 (bW (ej H (A ao G) T (A al Q) O n5 (A aN f5) n7 (A aX f7) n9 (A aY f9) q (A aG Y) Qm (A L Qd) Qu (A CE Qf)) QY Qv Qi Qk) (I (I RA-127)) (I (I R5-127)) O) (mh H (A ao G) T (A al Q) O n5 (A aN f5) n7 (A aX f7) n9 (A aY f9) q (A aG Y) (A L Qd) (A CE Qf) QY Qv Qi Qk (I (I RA-127)) (I (I R5-127)) Qm)) (io (p7 (bW (ej H (A ao G) T (A al Q) O n5 (A aN f5) n7 (A aX f7) n9 (A aY f9) q (A aG Y) Qm (A L Qd) Qu (A CE Qf)) (ac QY Qi Qr) (ac Qv Qk Qt) (ac QY Qi Qr) (ac Qv Qk Qt)) (I (I RA-127)) (I (I R5-127)) O) (ml H (A ao G) T (A al Q) O n5 (A aN f5) n7 (A aX f7) n9 (A aY f9) q (A aG Y) (A L Qd) (A CE Qf) (ac QY Qi Qr) (ac Qv Qk Qt) (ac QY Qi Qr) (ac Qv Qk Qt) (I (I RA-127)) (I (I R5-127)) Qm)) (io (p7 (bW (ej H (A ao G) T (A al Q) O n5 (A aN f5) n7 (A aX f7) n9 (A aY f9) q (A aG Y) Qm (A L Qd) Qu (A CE Qf)) (ac QY Qi Qr) (ac Qv Qk Qt) (ac QY Qi Qr) (ac Qv Qk Qt)) (I (I RA-127)) (I (I R5-127)) O) (mh H (A ao G) T (A al Q) O n5 (A aN f5) n7 (A aX f7) n9 (A aY f9) q (A aG Y) (A L Qd) (A CE Qf) (ac QY Qi Qr) (ac Qv Qk Qt) (ac QY Qi Qr) (ac Qv Qk Qt) (I (I RA-127)) (I (I R5-127)) Qm)) then true else false else false else false else false else false
theorem ig4 (hp:(aI H (A ao G)/\aI T (A al Q)/\aI n5 (A aN f5)/\aI q (A aG Y))/\(0<=Qr/\Qr<=255)/\(0<=Qt/\Qt<=255)/\(0<=RA/\RA<=255)/\(0<=R5/\R5<=255)):a6 dK (hdd H G T Q O n5 f5 n7 f7 n9 f9 q Y Qm Qd Qu Qf QY Qv Qi Qk Qr Qt RA R5) (.bool true):=by
 refine aP hp.1 (ak (E2 (λh=>aC (ak (aA rfl))) (λh=>?_)));have h0:=an2 (qK h);obtain⟨p,At,r⟩:=acK h0.2 hp.2.1 hp.2.2.1 hp.2.2.2.1 hp.2.2.2.2;have hc:(ej H (A ao G) T (A al Q) O n5 (A aN f5) n7 (A aX f7) n9 (A aY f9) q (A aG Y) Qm (A L Qd) Qu (A CE Qf))=0:=h0.1;have e1:bW (ej H (A ao G) T (A al Q) O n5 (A aN f5) n7 (A aX f7) n9 (A aY f9) q (A aG Y) Qm (A L Qd) Qu (A CE Qf)) QY Qv Qi Qk=0:=qK h;have e2:bW (ej H (A ao G) T (A al Q) O n5 (A aN f5) n7 (A aX f7) n9 (A aY f9) q (A aG Y) Qm (A L Qd) Qu (A CE Qf)) (ac QY Qi Qr) (ac Qv Qk Qt) (ac QY Qi Qr) (ac Qv Qk Qt)=0:=aho hc At.pl;have e3:bW (ej H (A ao G) T (A al Q) O n5 (A aN f5) n7 (A aX f7) n9 (A aY f9) q (A aG Y) Qm (A L Qd) Qu (A CE Qf)) (ac QY Qi Qr) (ac Qv Qk Qt) (ac (ac QY Qi Qr) Qi RA) (ac (ac Qv Qk Qt) Qk R5)=0:=aho hc r.pl;rw[e1,e2,e3]
 (repeat (first|refine ak ?_|refine BK ?_|refine aC ?_|refine aP hp.1 ?_))
 refine c9 rfl (aL rfl (aL rfl ?_));have a:=kK hc p p;have b:=kK hc At At;have c:=kK hc r r;have m1:=Kd (kK hc p At).2 (kK hc At p).2 a.2 b.2;have m2:=Kd (kK hc p r).2 (kK hc r p).2 a.2 c.2;have m3:=Kd (kK hc At r).2 (kK hc r At).2 b.2 c.2
 (repeat (first|refine ak ?_|refine BK ?_|refine aC ?_|refine aP hp.1 ?_))
 refine c9 (KU m1) (aL (KU m1) (aL (KU m1) ?_))
 (repeat (first|refine ak ?_|refine BK ?_|refine aC ?_|refine aP hp.1 ?_))
 refine c9 (KU m2) (aL (KU m2) (aL (KU m2) ?_))
 (repeat (first|refine ak ?_|refine BK ?_|refine aC ?_|refine aP hp.1 ?_))
 refine d5 ?_ ?_
 ·simp only[fm0];rw[m3];exact eZ (Int.not_lt.2 b.1)
 (repeat (first|refine ak ?_|refine BK ?_|refine aC ?_|refine aP hp.1 ?_))
 refine E2 (λh=>c9 av (aC (ak (aA rfl)))) (λh=>?_);have M:=qK h;have hd:=anY M;have n1:=Kd (wh hc hd p At) (wh hc hd At p) (wh hc hd p p) (wh hc hd At At);rw[M];refine c9 rfl (aL rfl (aL rfl ?_))
 (repeat (first|refine ak ?_|refine BK ?_|refine aC ?_|refine aP hp.1 ?_))
 exact c9 n1 (aC (ak (aA rfl)))
def tys1005:List Ty:=[.agg [.sl ao,.sl al,tI,.sl aN,.sl aX,.sl aY,.sl aG,.sl L,.sl CE],.agg kp,.agg [.int .u8,.int .u8,.int .u8,.int .u8]]
theorem ok1005:(vP (lawC tys1005)).Ok Tryz.prog 3:=PK ahj Tryz.func3 bw λds hp=>er (jcs ..) (ig4 _ _ _ _ _ _ _ _ _ _ _ _ _ _ _ _ _ _ _ _ _ _ _ _ _ (by have h:iP [.agg [.sl ao,.sl al,tI,.sl aN,.sl aX,.sl aY,.sl aG,.sl L,.sl CE],.agg kp,.agg [.int .u8,.int .u8,.int .u8,.int .u8]] _:=hp;exact⟨⟨λi hi=>(h.1.1 i hi).1,λi hi=>(h.1.2.1 i hi).1,λi hi=>(h.1.2.2.2.1 i hi).1,λi hi=>(h.1.2.2.2.2.2.2.1 i hi).1⟩,h.2.2.1.1,h.2.2.1.2.1,h.2.2.1.2.2.1,h.2.2.1.2.2.2.1⟩))
end
end Go.Dx
